import PyProof.Rows.All
import Wide.All
import OpenK.AllK
import Wide.FinOn
import HandS.ForMost
import HandS.Exc
import HandS.ExcOwn
import HandS.WordsExc
import HandS.CallSlots
import HandS.Wide
import HandS.TupAny
import HandS.IsInst
import HandS.Comp
import HandS.Style
import KE.GoesNew
import HandS.Iter
import HandS.EndBits
import PySem.Challenge.RW_alwayslines_k36_tables_put_behind
set_option Elab.async false
set_option linter.all false
set_option autoImplicit false
set_option maxRecDepth 100000
set_option maxHeartbeats 4000000
/-! Own layer, part 1: plain values, cells, how a heap bears them. -/
namespace AL
open PySem PySem.Spec PyProof.Rows L2

/-- plain values: what never changes stands inline; ref k is the k-th mutable cell -/
inductive Pv where
  | non | bl (b : Bool) | int (i : Int) | str (x : Str)
  | tup (xs : List Pv) | lst (xs : List Pv) | ref (k : Nat)
  | obj (c : Str) (fs : List (Str × Pv)) | glo (x : Str) | ty (n : String)

inductive Co where
  | lst (xs : List Pv) | ins (c : Str) (fs : List (Str × Pv)) | dK (kvs : List (Key × Pv)) | dT (kvs : List (List Key × Pv)) | dead
abbrev Cells := List Co
abbrev Sl := List (Option Pv)

def Ex (H H' : Hp) : Prop := ∀ a o, H a = some o → H' a = some o
theorem Ex.refl (H : Hp) : Ex H H := fun _ _ h => h
theorem Ex.trans {H H1 H2 : Hp} (a : Ex H H1) (b : Ex H1 H2) : Ex H H2 := fun x o h => b x o (a x o h)
theorem Ex.upd {H : Hp} {p : Addr} {o : HO} (h : H p = none) : Ex H (upd H p o) := fun a u e => by
  rw [upd_ne (ne_of_none e h)]
  exact e
theorem Ex.none {H H' : Hp} {p : Addr} (e : Ex H H') (h : H' p = none) : H p = none := by
  cases q : H p with
  | none => rfl
  | some o => rw [e p o q] at h; cases h
theorem Ex.rd {H H' : Hp} {a : Addr} {u : HO} (e : Ex H H') (h : Rd H a u) : Rd H' a u := by
  rcases h with h | ⟨o, h⟩
  · exact Or.inl (e a _ h)
  · exact Or.inr ⟨o, e a _ h⟩
theorem Ex.l {K : PySem.W.Frag} {H H' : Hp} {a : Addr} {xs : List V} (e : Ex H H') (h : SqL K H a xs) : SqL K H' a xs := by
  rcases h with h | h
  · exact Or.inl (e.rd h)
  · exact Or.inr h
theorem Ex.t {K : PySem.W.Frag} {H H' : Hp} {a : Addr} {xs : List V} (e : Ex H H') (h : SqT K H a xs) : SqT K H' a xs := by
  rcases h with h | h
  · exact Or.inl (e.rd h)
  · exact Or.inr h

section
variable (K : PySem.W.Frag) (mg : Str → Option Value)
mutual
inductive RepV (U : Hp) (μ : List Addr) : Pv → V → Prop
  | non : RepV U μ .non .non
  | bl (b : Bool) : RepV U μ (.bl b) (.bl b)
  | int (i : Int) : RepV U μ (.int i) (.int i)
  | str (x : Str) : RepV U μ (.str x) (.str x)
  | tup {a : Addr} {xs : List V} {ps : List Pv} : SqT K U a xs → RepVs U μ ps xs → RepV U μ (.tup ps) (.ref a)
  | lst {a : Addr} {xs : List V} {ps : List Pv} : SqL K U a xs → RepVs U μ ps xs → RepV U μ (.lst ps) (.ref a)
  | ref {k : Nat} {a : Addr} : μ[k]? = some a → RepV U μ (.ref k) (.ref a)
  | obj {c : Str} {C a dx : Addr} {fs : List (Str × Pv)} {ws : List (Str × V)} : mg c = some (.ref C) → U a = some (.ins C dx ws) → fs.map (·.1) = ws.map (·.1) → RepVs U μ (fs.map (·.2)) (ws.map (·.2)) → RepV U μ (.obj c fs) (.ref a)
  | glo {x : Str} {f : Addr} : mg x = some (.ref f) → RepV U μ (.glo x) (.ref f)
  | ty (n : String) : RepV U μ (.ty n) (.ty n)
inductive RepVs (U : Hp) (μ : List Addr) : List Pv → List V → Prop
  | nil : RepVs U μ [] []
  | cons {p : Pv} {v : V} {ps : List Pv} {vs : List V} : RepV U μ p v → RepVs U μ ps vs → RepVs U μ (p :: ps) (v :: vs)
end
end

section
variable {K : PySem.W.Frag} {mg : Str → Option Value} {U U' : Hp} {μ μ' : List Addr}
theorem pre_get {μ μ' : List Addr} (m : μ <+: μ') {k : Nat} {a : Addr} (h : μ[k]? = some a) : μ'[k]? = some a := by
  obtain ⟨t, rfl⟩ := m
  rw [List.getElem?_append_left (List.getElem?_eq_some_iff.mp h).1]
  exact h
mutual
theorem RepV.mono (e : Ex U U') (m : μ <+: μ') : ∀ {p : Pv} {v : V}, RepV K mg U μ p v → RepV K mg U' μ' p v
  | _, _, .non => .non
  | _, _, .bl b => .bl b
  | _, _, .int i => .int i
  | _, _, .str x => .str x
  | _, _, .tup s r => .tup (e.t s) (RepVs.mono e m r)
  | _, _, .lst s r => .lst (e.l s) (RepVs.mono e m r)
  | _, _, .ref h => .ref (pre_get m h)
  | _, _, .obj g h n r => .obj g (e _ _ h) n (RepVs.mono e m r)
  | _, _, .glo h => .glo h
  | _, _, .ty n => .ty n
theorem RepVs.mono (e : Ex U U') (m : μ <+: μ') : ∀ {ps : List Pv} {vs : List V}, RepVs K mg U μ ps vs → RepVs K mg U' μ' ps vs
  | _, _, .nil => .nil
  | _, _, .cons h r => .cons (RepV.mono e m h) (RepVs.mono e m r)
end
theorem RepVs.length : ∀ {ps : List Pv} {vs : List V}, RepVs K mg U μ ps vs → ps.length = vs.length
  | _, _, .nil => rfl
  | _, _, .cons _ r => by rw [List.length_cons, List.length_cons, RepVs.length r]
theorem RepVs.get : ∀ {ps : List Pv} {vs : List V} {i : Nat} {v : V}, RepVs K mg U μ ps vs → vs[i]? = some v → ∃ p, ps[i]? = some p ∧ RepV K mg U μ p v
  | _, _, _, _, .nil, h => by simp at h
  | _, _, 0, _, .cons h _, e => by
    simp at e; subst e; exact ⟨_, rfl, h⟩
  | _, _, i + 1, _, .cons _ r, e => by
    obtain ⟨p, h1, h2⟩ := RepVs.get (i := i) r (by simpa using e)
    exact ⟨p, by simpa using h1, h2⟩
theorem RepVs.at : ∀ {ps : List Pv} {vs : List V} {i : Nat} {p : Pv}, RepVs K mg U μ ps vs → ps[i]? = some p → ∃ v, vs[i]? = some v ∧ RepV K mg U μ p v
  | _, _, _, _, .nil, h => by simp at h
  | _, _, 0, _, .cons h _, e => by
    simp at e; subst e; exact ⟨_, rfl, h⟩
  | _, _, i + 1, _, .cons _ r, e => by
    obtain ⟨p, h1, h2⟩ := RepVs.at (i := i) r (by simpa using e)
    exact ⟨p, by simpa using h1, h2⟩
theorem RepVs.append : ∀ {ps qs : List Pv} {vs ws : List V}, RepVs K mg U μ ps vs → RepVs K mg U μ qs ws → RepVs K mg U μ (ps ++ qs) (vs ++ ws)
  | _, _, _, _, .nil, s => s
  | _, _, _, _, .cons h r, s => .cons h (RepVs.append r s)
theorem RepVs.set {p : Pv} {v : V} (h : RepV K mg U μ p v) : ∀ {ps : List Pv} {vs : List V} (i : Nat), RepVs K mg U μ ps vs → RepVs K mg U μ (ps.set i p) (vs.set i v)
  | _, _, _, .nil => .nil
  | _, _, 0, .cons _ r => .cons h r
  | _, _, i + 1, .cons g r => .cons g (RepVs.set h i r)
theorem RepVs.take : ∀ {ps : List Pv} {vs : List V} (n : Nat), RepVs K mg U μ ps vs → RepVs K mg U μ (ps.take n) (vs.take n)
  | _, _, 0, _ => .nil
  | _, _, _ + 1, .nil => .nil
  | _, _, n + 1, .cons h r => .cons h (RepVs.take n r)
theorem RepVs.drop : ∀ {ps : List Pv} {vs : List V} (n : Nat), RepVs K mg U μ ps vs → RepVs K mg U μ (ps.drop n) (vs.drop n)
  | _, _, 0, r => r
  | _, _, _ + 1, .nil => .nil
  | _, _, n + 1, .cons _ r => RepVs.drop n r
theorem RepVs.ints : ∀ {ns : List Int} {vs : List V}, RepVs K mg U μ (ns.map Pv.int) vs → vs = ns.map V.int
  | [], _, .nil => rfl
  | n :: ns, _, .cons (.int _) r => by rw [List.map_cons, RepVs.ints r]
theorem RepVs.of_ints : ∀ (ns : List Int), RepVs K mg U μ (ns.map Pv.int) (ns.map V.int)
  | [] => .nil
  | n :: ns => .cons (.int n) (RepVs.of_ints ns)
end

/-! ### cells -/
section
variable (K : PySem.W.Frag) (mg : Str → Option Value)
def RepF (U : Hp) (μ : List Addr) (fs : List (Str × Pv)) (ws : List (Str × V)) : Prop := fs.map (·.1) = ws.map (·.1) ∧ RepVs K mg U μ (fs.map (·.2)) (ws.map (·.2))
def RepC (U : Hp) (μ : List Addr) : Co → Option HO → Prop
  | .lst ps, o => ∃ xs, o = some (.lst xs) ∧ RepVs K mg U μ ps xs
  | .ins c fs, o => ∃ C dx ws, mg c = some (.ref C) ∧ o = some (.ins C dx ws) ∧ RepF K mg U μ fs ws
  | .dK kvs, o => ∃ ws : List (Key × V), o = some (.dK ws) ∧ kvs.map (·.1) = ws.map (·.1) ∧ RepVs K mg U μ (kvs.map (·.2)) (ws.map (·.2))
  | .dT kvs, o => ∃ ws : List (List Key × V), o = some (.dT ws) ∧ kvs.map (·.1) = ws.map (·.1) ∧ RepVs K mg U μ (kvs.map (·.2)) (ws.map (·.2))
  | .dead, o => o ≠ none
structure Rel0 (cs : Cells) (μ : List Addr) (U H : Hp) : Prop where
  vh : Ex U H
  nd : μ.Nodup
  len : μ.length = cs.length
  cel : ∀ (k : Nat) (c : Co) (a : Addr), cs[k]? = some c → μ[k]? = some a → RepC K mg U μ c (H a)
  out : ∀ (k : Nat) (c : Co) (a : Addr), cs[k]? = some c → μ[k]? = some a → c ≠ .dead → U a = none
structure Gr (U H : Hp) (μ : List Addr) (U' H' : Hp) (μ' : List Addr) : Prop where
  vv : Ex U U'
  mm : μ <+: μ'
  hid : ∀ a o, H a = some o → U a = none → a ∉ μ → H' a = some o ∧ U' a = none ∧ a ∉ μ'
def RelS (U : Hp) (μ : List Addr) (sl : Sl) (σ : L2.St) : Prop := sl.length = σ.length ∧ ∀ (i : Nat) (p : Pv), sl[i]? = some (some p) → ∃ v, σ[i]? = some (some v) ∧ RepV K mg U μ p v
end
section
variable {K : PySem.W.Frag} {mg : Str → Option Value} {U U' H H' U1 H1 U2 H2 : Hp} {μ μ' μ1 μ2 : List Addr} {cs cs' : Cells}
theorem RepC.mono (e : Ex U U') (m : μ <+: μ') : ∀ {c : Co} {o : Option HO}, RepC K mg U μ c o → RepC K mg U' μ' c o
  | .lst ps, _, ⟨xs, h, r⟩ => ⟨xs, h, r.mono e m⟩
  | .ins c fs, _, ⟨C, dx, ws, g, h, n, r⟩ => ⟨C, dx, ws, g, h, n, r.mono e m⟩
  | .dK kvs, _, ⟨ws, h, n, r⟩ => ⟨ws, h, n, r.mono e m⟩
  | .dT kvs, _, ⟨ws, h, n, r⟩ => ⟨ws, h, n, r.mono e m⟩
  | .dead, _, h => h
theorem RepC.some : ∀ {c : Co} {o : Option HO}, RepC K mg U μ c o → o ≠ none
  | .lst ps, _, ⟨xs, h, r⟩ => by rw [h]; simp
  | .ins c fs, _, ⟨C, dx, ws, g, h, n, r⟩ => by rw [h]; simp
  | .dK kvs, _, ⟨ws, h, n, r⟩ => by rw [h]; simp
  | .dT kvs, _, ⟨ws, h, n, r⟩ => by rw [h]; simp
  | .dead, _, h => h
theorem Gr.refl : Gr U H μ U H μ := ⟨Ex.refl _, List.prefix_refl _, fun _ _ h u m => ⟨h, u, m⟩⟩
theorem Gr.trans (a : Gr U H μ U1 H1 μ1) (b : Gr U1 H1 μ1 U2 H2 μ2) : Gr U H μ U2 H2 μ2 :=
  ⟨a.vv.trans b.vv, a.mm.trans b.mm, fun x o h u m => by
    obtain ⟨h1, u1, m1⟩ := a.hid x o h u m
    exact b.hid x o h1 u1 m1⟩
theorem RelS.mono {sl : Sl} {σ : L2.St} (g : Gr U H μ U' H' μ') (r : RelS K mg U μ sl σ) : RelS K mg U' μ' sl σ :=
  ⟨r.1, fun i p h => by
    obtain ⟨v, h1, h2⟩ := r.2 i p h
    exact ⟨v, h1, h2.mono g.vv g.mm⟩⟩
theorem RelS.set {sl : Sl} {σ : L2.St} {p : Pv} {v : V} (r : RelS K mg U μ sl σ) (h : RepV K mg U μ p v) (i : Nat) : RelS K mg U μ (sl.set i (some p)) (σ.set i (some v)) := by
  refine ⟨by rw [List.length_set, List.length_set, r.1], fun j q e => ?_⟩
  by_cases hj : i = j
  · subst hj
    have hl : i < sl.length := by
      have := (List.getElem?_eq_some_iff.mp e).1
      rwa [List.length_set] at this
    rw [List.getElem?_set_self hl] at e
    cases e
    exact ⟨v, List.getElem?_set_self (by rw [← r.1]; exact hl), h⟩
  · rw [List.getElem?_set_ne hj] at e
    rw [List.getElem?_set_ne hj]
    exact r.2 j q e
theorem RelS.setNone {sl : Sl} {σ : L2.St} (r : RelS K mg U μ sl σ) (i : Nat) : RelS K mg U μ (sl.set i none) (σ.set i none) := by
  refine ⟨by rw [List.length_set, List.length_set, r.1], fun j q e => ?_⟩
  by_cases hj : i = j
  · subst hj
    have hl : i < sl.length := by
      have := (List.getElem?_eq_some_iff.mp e).1
      rwa [List.length_set] at this
    rw [List.getElem?_set_self hl] at e
    cases e
  · rw [List.getElem?_set_ne hj] at e
    rw [List.getElem?_set_ne hj]
    exact r.2 j q e
theorem Rel0.there (r : Rel0 K mg cs μ U H) {a : Addr} (h : a ∈ μ) : H a ≠ none := by
  obtain ⟨k, hk⟩ := List.mem_iff_getElem?.mp h
  have hl : k < cs.length := by rw [← r.len]; exact (List.getElem?_eq_some_iff.mp hk).1
  exact (r.cel k _ a (List.getElem?_eq_getElem hl) hk).some
/-- a new thing that will never change -/
theorem Rel0.freeze {p : Addr} {o : HO} (r : Rel0 K mg cs μ U H) (h : H p = none) : Rel0 K mg cs μ (upd U p o) (upd H p o) ∧ Gr U H μ (upd U p o) (upd H p o) μ := by
  have hU : U p = none := r.vh.none h
  have ne : ∀ a, a ∈ μ → a ≠ p := fun a ha e => r.there ha (e ▸ h)
  have ex : Ex U (upd U p o) := Ex.upd hU
  refine ⟨⟨fun a u e => ?_, r.nd, r.len, fun k c a h1 h2 => ?_, fun k c a h1 h2 h3 => ?_⟩, ex, List.prefix_refl _, fun a u h1 h2 h3 => ?_⟩
  · by_cases q : a = p
    · subst q; rw [upd_same] at e ⊢; exact e
    · rw [upd_ne q] at e ⊢; exact r.vh a u e
  · rw [upd_ne (ne a (List.mem_of_getElem? h2))]
    exact (r.cel k c a h1 h2).mono ex (List.prefix_refl _)
  · rw [upd_ne (ne a (List.mem_of_getElem? h2))]
    exact r.out k c a h1 h2 h3
  · have q : a ≠ p := ne_of_none h1 h
    rw [upd_ne q, upd_ne q]
    exact ⟨h1, h2, h3⟩
/-- a new thing that nobody speaks of -/
theorem Rel0.hidden {p : Addr} {o : HO} (r : Rel0 K mg cs μ U H) (h : H p = none) : Rel0 K mg cs μ U (upd H p o) ∧ Gr U H μ U (upd H p o) μ := by
  have hU : U p = none := r.vh.none h
  have ne : ∀ a, a ∈ μ → a ≠ p := fun a ha e => r.there ha (e ▸ h)
  refine ⟨⟨fun a u e => ?_, r.nd, r.len, fun k c a h1 h2 => ?_, r.out⟩, Ex.refl _, List.prefix_refl _, fun a u h1 h2 h3 => ?_⟩
  · rw [upd_ne (ne_of_none e hU)]
    exact r.vh a u e
  · rw [upd_ne (ne a (List.mem_of_getElem? h2))]
    exact r.cel k c a h1 h2
  · have q : a ≠ p := ne_of_none h1 h
    rw [upd_ne q]
    exact ⟨h1, h2, h3⟩
/-- a hidden thing turns -/
theorem Rel0.turn {p : Addr} {o : HO} (r : Rel0 K mg cs μ U H) (hU : U p = none) (hm : p ∉ μ) : Rel0 K mg cs μ U (upd H p o) := by
  refine ⟨fun a u e => ?_, r.nd, r.len, fun k c a h1 h2 => ?_, r.out⟩
  · rw [upd_ne (ne_of_none e hU)]
    exact r.vh a u e
  · rw [upd_ne (fun e : a = p => hm (e ▸ List.mem_of_getElem? h2))]
    exact r.cel k c a h1 h2
/-- a hidden thing comes into sight, for good -/
theorem Rel0.show_ {p : Addr} {o : HO} (r : Rel0 K mg cs μ U H) (hp : H p = some o) (hU : U p = none) (hm : p ∉ μ) : Rel0 K mg cs μ (upd U p o) H ∧ Ex U (upd U p o) := by
  have ex : Ex U (upd U p o) := Ex.upd hU
  refine ⟨⟨fun a u e => ?_, r.nd, r.len, fun k c a h1 h2 => (r.cel k c a h1 h2).mono ex (List.prefix_refl _), fun k c a h1 h2 h3 => ?_⟩, ex⟩
  · by_cases q : a = p
    · subst q; rw [upd_same] at e; rw [← e]; exact hp
    · rw [upd_ne q] at e; exact r.vh a u e
  · rw [upd_ne (fun e : a = p => hm (e ▸ List.mem_of_getElem? h2))]
    exact r.out k c a h1 h2 h3
/-- a new cell of a hidden thing -/
theorem Rel0.cell {p : Addr} {c : Co} (r : Rel0 K mg cs μ U H) (hc : RepC K mg U (μ ++ [p]) c (H p)) (hU : U p = none) (hm : p ∉ μ) : Rel0 K mg (cs ++ [c]) (μ ++ [p]) U H := by
  have pm : μ <+: μ ++ [p] := List.prefix_append _ _
  have key : ∀ (P : Co → Addr → Prop), (∀ (k : Nat) c a, cs[k]? = some c → μ[k]? = some a → P c a) → P c p → ∀ (k : Nat) c' a, (cs ++ [c])[k]? = some c' → (μ ++ [p])[k]? = some a → P c' a := fun P h0 h1 k c' a e1 e2 => by
    by_cases hk : k < cs.length
    · rw [List.getElem?_append_left hk] at e1
      rw [List.getElem?_append_left (by rw [r.len]; exact hk)] at e2
      exact h0 k c' a e1 e2
    · have hk2 : k = cs.length := by
        have := (List.getElem?_eq_some_iff.mp e1).1
        rw [List.length_append, List.length_singleton] at this
        omega
      subst hk2
      rw [List.getElem?_append_right (Nat.le_refl _), Nat.sub_self] at e1
      rw [← r.len, List.getElem?_append_right (Nat.le_refl _), Nat.sub_self] at e2
      cases e1; cases e2
      exact h1
  refine ⟨r.vh, ?_, by rw [List.length_append, List.length_append, r.len]; rfl, key (fun c a => RepC K mg U (μ ++ [p]) c (H a)) (fun k c a h1 h2 => (r.cel k c a h1 h2).mono (Ex.refl _) pm) hc, key (fun c a => c ≠ .dead → U a = none) (fun k c a h1 h2 => r.out k c a h1 h2) fun _ => hU⟩
  rw [List.nodup_append]
  refine ⟨r.nd, by simp, fun a ha b hb e => ?_⟩
  have : b = p := by simpa using hb
  subst this; subst e; exact hm ha
/-- a cell turns -/
theorem Rel0.put {k : Nat} {a : Addr} {c c' : Co} {o : HO} (r : Rel0 K mg cs μ U H) (hk : cs[k]? = some c) (hd : c ≠ .dead) (ha : μ[k]? = some a) (hc : RepC K mg U μ c' (some o)) :
    Rel0 K mg (cs.set k c') μ U (upd H a o) ∧ Gr U H μ U (upd H a o) μ := by
  have hU : U a = none := r.out k c a hk ha hd
  have kl : k < cs.length := (List.getElem?_eq_some_iff.mp hk).1
  refine ⟨⟨fun b u e => ?_, r.nd, by rw [List.length_set]; exact r.len, fun j c2 b h1 h2 => ?_, fun j c2 b h1 h2 h3 => ?_⟩, Ex.refl _, List.prefix_refl _, fun b u h1 h2 h3 => ?_⟩
  · rw [upd_ne (ne_of_none e hU)]
    exact r.vh b u e
  · by_cases q : k = j
    · subst q
      rw [List.getElem?_set_self kl] at h1
      cases h1
      rw [ha] at h2; cases h2
      rw [upd_same]
      exact hc
    · rw [List.getElem?_set_ne q] at h1
      have : b ≠ a := fun e => q (nodup_ix' r.nd ha (e ▸ h2))
      rw [upd_ne this]
      exact r.cel j c2 b h1 h2
  · by_cases q : k = j
    · subst q
      rw [ha] at h2; cases h2
      exact hU
    · rw [List.getElem?_set_ne q] at h1
      exact r.out j c2 b h1 h2 h3
  · have : b ≠ a := fun e => h3 (e ▸ List.mem_of_getElem? ha)
    rw [upd_ne this]
    exact ⟨h1, h2, h3⟩
where nodup_ix' {l : List Addr} (hN : l.Nodup) {i j : Nat} {x : Addr} (a : l[i]? = some x) (b : l[j]? = some x) : i = j := nd_ix hN a b
end
end AL

set_option Elab.async false
set_option linter.all false
set_option autoImplicit false
set_option maxRecDepth 100000
set_option maxHeartbeats 4000000
/-! Own layer, part 2: outcomes, readings. -/
namespace AL
open PySem PySem.Spec PyProof.Rows L2

inductive Res (α : Type) where
  | ok (a : α) (cs : Cells) | exn (c : Str) (fs : List (Str × Pv)) (cs : Cells) | bad
def Res.bind {α β : Type} : Res α → (α → Cells → Res β) → Res β
  | .ok a cs, k => k a cs
  | .exn c fs cs, _ => .exn c fs cs
  | .bad, _ => .bad
@[simp] theorem Res.bind_ok {α β : Type} (a : α) (cs : Cells) (k : α → Cells → Res β) : (Res.ok a cs).bind k = k a cs := rfl
@[simp] theorem Res.bind_exn {α β : Type} (c : Str) (fs : List (Str × Pv)) (cs : Cells) (k : α → Cells → Res β) : (Res.exn c fs cs : Res α).bind k = .exn c fs cs := rfl
@[simp] theorem Res.bind_bad {α β : Type} (k : α → Cells → Res β) : (Res.bad : Res α).bind k = .bad := rfl
inductive RS where
  | nx (sl : Sl) (cs : Cells) | rt (v : Pv) (cs : Cells) | bk (sl : Sl) (cs : Cells) | ct (sl : Sl) (cs : Cells) | exn (c : Str) (fs : List (Str × Pv)) (sl : Sl) (cs : Cells) | bad
/-- an expression's outcome, then a statement -/
def Res.go {α : Type} (sl : Sl) : Res α → (α → Cells → RS) → RS
  | .ok a cs, k => k a cs
  | .exn c fs cs, _ => .exn c fs sl cs
  | .bad, _ => .bad
@[simp] theorem Res.go_ok {α : Type} (sl : Sl) (a : α) (cs : Cells) (k : α → Cells → RS) : (Res.ok a cs).go sl k = k a cs := rfl
@[simp] theorem Res.go_exn {α : Type} (sl : Sl) (c : Str) (fs : List (Str × Pv)) (cs : Cells) (k : α → Cells → RS) : (Res.exn c fs cs : Res α).go sl k = .exn c fs sl cs := rfl
@[simp] theorem Res.go_bad {α : Type} (sl : Sl) (k : α → Cells → RS) : (Res.bad : Res α).go sl k = .bad := rfl
/-- a statement, then the next -/
def RS.then : RS → (Sl → Cells → RS) → RS
  | .nx sl cs, k => k sl cs
  | r, _ => r
@[simp] theorem RS.then_nx (sl : Sl) (cs : Cells) (k : Sl → Cells → RS) : (RS.nx sl cs).then k = k sl cs := rfl
@[simp] theorem RS.then_rt (v : Pv) (cs : Cells) (k : Sl → Cells → RS) : (RS.rt v cs).then k = .rt v cs := rfl
@[simp] theorem RS.then_bk (sl : Sl) (cs : Cells) (k : Sl → Cells → RS) : (RS.bk sl cs).then k = .bk sl cs := rfl
@[simp] theorem RS.then_ct (sl : Sl) (cs : Cells) (k : Sl → Cells → RS) : (RS.ct sl cs).then k = .ct sl cs := rfl
@[simp] theorem RS.then_exn (c : Str) (fs : List (Str × Pv)) (sl : Sl) (cs : Cells) (k : Sl → Cells → RS) : (RS.exn c fs sl cs).then k = .exn c fs sl cs := rfl
@[simp] theorem RS.then_bad (k : Sl → Cells → RS) : RS.bad.then k = .bad := rfl
abbrev FE := Sl → Cells → Res Pv
abbrev FA := Sl → Cells → Res (List Pv)
abbrev FT := Sl → Cells → Res Bool
abbrev FS := Sl → Cells → RS

section
variable (K : PySem.W.Frag) (mg : Str → Option Value)
/-- the dict of an exception -/
def XRep (U : Hp) (μ : List Addr) (fs : List (Str × Pv)) (d : Option Addr) (H : Hp) : Prop :=
  (fs = [] ∧ d = none) ∨ ∃ da ws, d = some da ∧ H da = some (.xd ws) ∧ RepF K mg U μ fs ws
def Out {α β : Type} (R : Hp → List Addr → α → β → Prop) (E : XK) (U H : Hp) (μ : List Addr) (r : Res α) (Q : β → Hp → Prop) : Prop :=
  match r with
  | .ok a cs => ∀ w U' H' μ', Gr U H μ U' H' μ' → Rel0 K mg cs μ' U' H' → R U' μ' a w → Q w H'
  | .exn c fs cs => ∀ C d U' H' μ', Gr U H μ U' H' μ' → Rel0 K mg cs μ' U' H' → mg c = some (.ref C) → XRep K mg U' μ' fs d H' → E (.ref C) d H'
  | .bad => False
def OutS (W : WX) (D : Ends) (U H : Hp) (μ : List Addr) (r : RS) : Prop :=
  match r with
  | .nx sl cs => ∀ σ' U' H' μ', Gr U H μ U' H' μ' → Rel0 K mg cs μ' U' H' → RelS K mg U' μ' sl σ' → D.nx σ' H'
  | .bk sl cs => ∀ σ' U' H' μ', Gr U H μ U' H' μ' → Rel0 K mg cs μ' U' H' → RelS K mg U' μ' sl σ' → D.bk σ' H'
  | .ct sl cs => ∀ σ' U' H' μ', Gr U H μ U' H' μ' → Rel0 K mg cs μ' U' H' → RelS K mg U' μ' sl σ' → D.ct σ' H'
  | .rt v cs => ∀ w U' H' μ', Gr U H μ U' H' μ' → Rel0 K mg cs μ' U' H' → RepV K mg U' μ' v w → D.rt w H'
  | .exn c fs sl cs => ∀ C d σ' U' H' μ', Gr U H μ U' H' μ' → Rel0 K mg cs μ' U' H' → RelS K mg U' μ' sl σ' → mg c = some (.ref C) → XRep K mg U' μ' fs d H' → W (.ref C) d σ' H'
  | .bad => False
def rdE (W : WX) (f : FE) : TE := fun σ H Q => ∃ sl cs μ U, Rel0 K mg cs μ U H ∧ RelS K mg U μ sl σ ∧ Out K mg (RepV K mg) (fun c d H => W c d σ H) U H μ (f sl cs) Q
def rdA (W : WX) (f : FA) : TA := fun σ H Q => ∃ sl cs μ U, Rel0 K mg cs μ U H ∧ RelS K mg U μ sl σ ∧ Out K mg (RepVs K mg) (fun c d H => W c d σ H) U H μ (f sl cs) Q
def rdT (W : WX) (f : FT) : TT := fun σ H Q => ∃ sl cs μ U, Rel0 K mg cs μ U H ∧ RelS K mg U μ sl σ ∧ Out K mg (fun _ _ a b => a = b) (fun c d H => W c d σ H) U H μ (f sl cs) Q
def rdS (W : WX) (f : FS) : TS := fun D σ H => ∃ sl cs μ U, Rel0 K mg cs μ U H ∧ RelS K mg U μ sl σ ∧ OutS K mg W D U H μ (f sl cs)
end

section
variable {K : PySem.W.Frag} {mg : Str → Option Value} {U U' H H' U1 H1 : Hp} {μ μ' μ1 : List Addr} {cs cs' : Cells} {α β γ δ : Type} {R : Hp → List Addr → α → γ → Prop} {R' : Hp → List Addr → β → δ → Prop} {E : XK} {W : WX} {D : Ends}
theorem Out.later {r : Res α} {Q : γ → Hp → Prop} (g : Gr U H μ U1 H1 μ1) (h : Out K mg R E U H μ r Q) : Out K mg R E U1 H1 μ1 r Q := by
  cases r with
  | ok a cs => exact fun w U' H' μ' g' r' q => h w U' H' μ' (g.trans g') r' q
  | exn c fs cs => exact fun C d U' H' μ' g' r' m x => h C d U' H' μ' (g.trans g') r' m x
  | bad => exact h
theorem OutS.later {r : RS} (g : Gr U H μ U1 H1 μ1) (h : OutS K mg W D U H μ r) : OutS K mg W D U1 H1 μ1 r := by
  cases r with
  | nx a cs => exact fun w U' H' μ' g' r' q => h w U' H' μ' (g.trans g') r' q
  | bk a cs => exact fun w U' H' μ' g' r' q => h w U' H' μ' (g.trans g') r' q
  | ct a cs => exact fun w U' H' μ' g' r' q => h w U' H' μ' (g.trans g') r' q
  | rt a cs => exact fun w U' H' μ' g' r' q => h w U' H' μ' (g.trans g') r' q
  | exn c fs sl cs => exact fun C d σ' U' H' μ' g' r' q m x => h C d σ' U' H' μ' (g.trans g') r' q m x
  | bad => exact h
/-- one behind the other -/
theorem Out.seq {r : Res α} {k : α → Cells → Res β} {Q : δ → Hp → Prop} {Q1 : γ → Hp → Prop} (h : Out K mg R' E U H μ (r.bind k) Q)
    (c : ∀ a cs1 w U1 H1 μ1, r = .ok a cs1 → Gr U H μ U1 H1 μ1 → Rel0 K mg cs1 μ1 U1 H1 → R U1 μ1 a w → Out K mg R' E U1 H1 μ1 (k a cs1) Q → Q1 w H1) : Out K mg R E U H μ r Q1 := by
  cases r with
  | ok a cs => exact fun w U' H' μ' g' r' q => c a cs w U' H' μ' rfl g' r' q (Out.later g' h)
  | exn c fs cs => exact h
  | bad => exact h
theorem OutS.seq {r : Res α} {sl : Sl} {σ : L2.St} {k : α → Cells → RS} {Q1 : γ → Hp → Prop} (h : OutS K mg W D U H μ (r.go sl k)) (rs : RelS K mg U μ sl σ)
    (c : ∀ a cs1 w U1 H1 μ1, r = .ok a cs1 → Gr U H μ U1 H1 μ1 → Rel0 K mg cs1 μ1 U1 H1 → R U1 μ1 a w → OutS K mg W D U1 H1 μ1 (k a cs1) → Q1 w H1) : Out K mg R (fun c d H => W c d σ H) U H μ r Q1 := by
  cases r with
  | ok a cs => exact fun w U' H' μ' g' r' q => c a cs w U' H' μ' rfl g' r' q (OutS.later g' h)
  | exn c fs cs => exact fun C d U' H' μ' g' r' m x => h C d σ U' H' μ' g' r' (rs.mono g') m x
  | bad => exact h
theorem RS.bad_then {k : Sl → Cells → RS} : (RS.bad).then k = .bad := rfl
/-- a statement, then a statement -/
theorem OutS.then {r : RS} {k : Sl → Cells → RS} {D' : Ends} (h : OutS K mg W D U H μ (r.then k)) (hrt : ∀ v H', D.rt v H' → D'.rt v H') (hbk : ∀ σ H', D.bk σ H' → D'.bk σ H') (hct : ∀ σ H', D.ct σ H' → D'.ct σ H')
    (c : ∀ sl1 cs1 σ1 U1 H1 μ1, r = .nx sl1 cs1 → Gr U H μ U1 H1 μ1 → Rel0 K mg cs1 μ1 U1 H1 → RelS K mg U1 μ1 sl1 σ1 → OutS K mg W D U1 H1 μ1 (k sl1 cs1) → D'.nx σ1 H1) : OutS K mg W D' U H μ r := by
  cases r with
  | nx a cs => exact fun σ' U' H' μ' g' r' q => c a cs σ' U' H' μ' rfl g' r' q (OutS.later g' h)
  | bk a cs => exact fun w U' H' μ' g' r' q => hbk _ _ (h w U' H' μ' g' r' q)
  | ct a cs => exact fun w U' H' μ' g' r' q => hct _ _ (h w U' H' μ' g' r' q)
  | rt a cs => exact fun w U' H' μ' g' r' q => hrt _ _ (h w U' H' μ' g' r' q)
  | exn c fs sl cs => exact h
  | bad => exact h
end

/-! ### weaker readings -/
theorem PE.le {X : Cx} {e : Expr} {t t' : TE} (h : PE X e t) (l : ∀ σ H Q, t' σ H Q → t σ H Q) : PE X e t' := ⟨fun pins s σ H Q I q => h.run pins s σ H Q I (l σ H Q q)⟩
theorem PT.le {X : Cx} {e : Expr} {t t' : TT} (h : PT X e t) (l : ∀ σ H Q, t' σ H Q → t σ H Q) : PT X e t' := ⟨fun pins s σ H Q I q => h.run pins s σ H Q I (l σ H Q q)⟩
theorem PW.le {X : Cx} {e : Expr} {t t' : TT} (h : PW X e t) (l : ∀ σ H Q, t' σ H Q → t σ H Q) : PW X e t' := ⟨fun wh pins s σ H Q I q => h.run wh pins s σ H Q I (l σ H Q q)⟩
theorem PA.le {X : Cx} {es : List Expr} {t t' : TA} (h : PA X es t) (l : ∀ σ H Q, t' σ H Q → t σ H Q) : PA X es t' := ⟨fun pos pins s σ H Q I q => h.run pos pins s σ H Q I (l σ H Q q)⟩
theorem PS.le {X : Cx} {st : Stmt} {t t' : TS} (h : PS X st t) (l : ∀ D σ H, t' D σ H → t D σ H) : PS X st t' := ⟨fun pins s σ H D I q => h.run pins s σ H D I (l D σ H q)⟩
theorem PSs.le {X : Cx} {st : List Stmt} {t t' : TS} (h : PSs X st t) (l : ∀ D σ H, t' D σ H → t D σ H) : PSs X st t' := ⟨fun pins s σ H D I q => h.run pins s σ H D I (l D σ H q)⟩

/-! ### names, constants -/
def fVar (i : Nat) : FE := fun sl cs => match sl[i]? with
  | some (some v) => .ok v cs
  | _ => .bad
def fCon (v : Pv) : FE := fun _ cs => .ok v cs
section
variable {X : Cx} {W : WX}
theorem b_var (i : Nat) {x : Str} {pos : Pos} (hN : X.N[i]? = some x := by rfl) (hv : Vis X.env.scope x := by first | exact Or.inl rfl | exact Or.inr (Or.inl rfl) | exact Or.inr (Or.inr rfl)) (hd : (x == ("__debug__" : Str)) = false := by decide)
    (hcd : (x == ("__classdict__" : Str)) = false := by decide) : PE X (.Name x pos) (rdE X.K X.mg W (fVar i)) := by
  refine PE.le (pe_var hN hv hd hcd) fun σ H Q h => ?_
  obtain ⟨sl, cs, μ, U, r0, rs, h⟩ := h
  unfold fVar at h
  split at h
  · rename_i v e
    obtain ⟨w, h1, h2⟩ := rs.2 i v e
    exact ⟨w, h1, h w U H μ Gr.refl r0 h2⟩
  · exact h.elim
theorem rd_con {v : Pv} {w : V} (r : ∀ U μ, RepV X.K X.mg U μ v w) (σ : L2.St) (H : Hp) (Q : VK) (h : rdE X.K X.mg W (fCon v) σ H Q) : Q w H := by
  obtain ⟨sl, cs, μ, U, r0, rs, h⟩ := h
  exact h w U H μ Gr.refl r0 (r U μ)
theorem b_int {i j pos} : PE X (.Constant (.int i) j pos) (rdE X.K X.mg W (fCon (.int i))) := PE.le pe_int fun σ H Q h => rd_con (fun _ _ => .int i) σ H Q h
theorem b_bl {b j pos} : PE X (.Constant (.bool b) j pos) (rdE X.K X.mg W (fCon (.bl b))) := PE.le pe_bl fun σ H Q h => rd_con (fun _ _ => .bl b) σ H Q h
theorem b_non {j pos} : PE X (.Constant .none j pos) (rdE X.K X.mg W (fCon .non)) := PE.le pe_non fun σ H Q h => rd_con (fun _ _ => .non) σ H Q h
theorem b_str {x j pos} : PE X (.Constant (.str x) j pos) (rdE X.K X.mg W (fCon (.str x))) := PE.le pe_str fun σ H Q h => rd_con (fun _ _ => .str x) σ H Q h
end

/-! ### operations on values -/
abbrev F2 := Pv → Pv → Cells → Res Pv
def f2 (o : F2) (f g : FE) : FE := fun sl cs => (f sl cs).bind fun x cs1 => (g sl cs1).bind fun y cs2 => o x y cs2
def f1 (o : Pv → Cells → Res Pv) (f : FE) : FE := fun sl cs => (f sl cs).bind fun x cs1 => o x cs1
/-- an operation's own reading r follows from what the plain operation says -/
def Ok2 (K : PySem.W.Frag) (mg : Str → Option Value) (o : F2) (r : R2) : Prop := ∀ (E : XK) x y cs v w U H μ Q, Rel0 K mg cs μ U H → RepV K mg U μ x v → RepV K mg U μ y w → Out K mg (RepV K mg) E U H μ (o x y cs) Q → r v w H Q
def Ok1 (K : PySem.W.Frag) (mg : Str → Option Value) (o : Pv → Cells → Res Pv) (r : V → Hp → VK → Prop) : Prop := ∀ (E : XK) x cs v U H μ Q, Rel0 K mg cs μ U H → RepV K mg U μ x v → Out K mg (RepV K mg) E U H μ (o x cs) Q → r v H Q
section
variable {K : PySem.W.Frag} {mg : Str → Option Value} {W : WX} {f g : FE}
theorem rd_op {o : F2} {r : R2} (hr : Ok2 K mg o r) (σ : L2.St) (H : Hp) (Q : VK) (h : rdE K mg W (f2 o f g) σ H Q) : tOp r (rdE K mg W f) (rdE K mg W g) σ H Q := by
  obtain ⟨sl, cs, μ, U, r0, rs, h⟩ := h
  refine ⟨sl, cs, μ, U, r0, rs, Out.seq h fun x cs1 w U1 H1 μ1 _ g1 r1 p1 h1 => ⟨sl, cs1, μ1, U1, r1, rs.mono g1, Out.seq h1 fun y cs2 w2 U2 H2 μ2 _ g2 r2 p2 h2 => ?_⟩⟩
  exact hr _ x y cs2 w w2 U2 H2 μ2 Q r2 (p1.mono g2.vv g2.mm) p2 h2
theorem rd_un {o : Pv → Cells → Res Pv} {r : V → Hp → VK → Prop} (hr : Ok1 K mg o r) (σ : L2.St) (H : Hp) (Q : VK) (h : rdE K mg W (f1 o f) σ H Q) : tUn r (rdE K mg W f) σ H Q := by
  obtain ⟨sl, cs, μ, U, r0, rs, h⟩ := h
  exact ⟨sl, cs, μ, U, r0, rs, Out.seq h fun x cs1 w U1 H1 μ1 _ g1 r1 p1 h1 => hr _ x cs1 w U1 H1 μ1 Q r1 p1 h1⟩
end
section
variable {X : Cx} {W : WX} {f g : FE} {a b : Expr} {pos : Pos}
theorem b_bin {op : Operator} {o : F2} {r : R2} (ho : OpR X (binaryOp op) r) (hr : Ok2 X.K X.mg o r) (ha : PE X a (rdE X.K X.mg W f)) (hb : PE X b (rdE X.K X.mg W g)) : PE X (.BinOp a op b pos) (rdE X.K X.mg W (f2 o f g)) :=
  PE.le (pe_op ho ha hb) (rd_op hr)
theorem b_cmp {op : CmpOp} {o : F2} {r : R2} (ho : OpR X (compareOp op) r) (hr : Ok2 X.K X.mg o r) (ha : PE X a (rdE X.K X.mg W f)) (hb : PE X b (rdE X.K X.mg W g)) (hm : behindInMarks op b = false := by first | exact nomark _ | rfl) : PE X (.Compare a [op] [b] pos) (rdE X.K X.mg W (f2 o f g)) :=
  PE.le (pe_cmpR ho ha hb hm) (rd_op hr)
theorem b_un {op : UnaryOp} {o : Pv → Cells → Res Pv} {r : V → Hp → VK → Prop} (ho : UnR X (unaryOp op) r) (hr : Ok1 X.K X.mg o r) (ha : PE X a (rdE X.K X.mg W f)) : PE X (.UnaryOp op a pos) (rdE X.K X.mg W (f1 o f)) :=
  PE.le (pe_un ho ha) (rd_un hr)
end
end AL

set_option Elab.async false
set_option linter.all false
set_option autoImplicit false
set_option maxRecDepth 100000
set_option maxHeartbeats 4000000
/-! Own layer, part 3: operations on values. -/
namespace AL
open PySem PySem.Spec PyProof.Rows L2

/-! ### what is read as a list, a tuple -/
def asL (cs : Cells) : Pv → Option (List Pv)
  | .lst xs => some xs
  | .ref k => match cs[k]? with
    | some (.lst xs) => some xs
    | _ => none
  | _ => none
def asT : Pv → Option (List Pv)
  | .tup xs => some xs
  | _ => none
@[simp] theorem asL_lst (cs : Cells) (xs : List Pv) : asL cs (.lst xs) = some xs := rfl
@[simp] theorem asT_tup (xs : List Pv) : asT (.tup xs) = some xs := rfl
section
variable {K : PySem.W.Frag} {mg : Str → Option Value} {U H : Hp} {μ : List Addr} {cs : Cells}
theorem asL_ok {p : Pv} {v : V} {xs : List Pv} (r : Rel0 K mg cs μ U H) (h : RepV K mg U μ p v) (e : asL cs p = some xs) : ∃ a ws, v = .ref a ∧ SqL K H a ws ∧ RepVs K mg U μ xs ws := by
  cases h with
  | lst s q => cases e; exact ⟨_, _, rfl, r.vh.l s, q⟩
  | @ref k a m =>
    have e : (match cs[k]? with | some (.lst xs) => some xs | _ => none) = some xs := e
    split at e
    · rename_i ys hk
      cases e
      obtain ⟨ws, h1, h2⟩ := r.cel k _ a hk m
      exact ⟨a, ws, rfl, .of h1, h2⟩
    · cases e
  | _ => cases e
theorem asT_ok {p : Pv} {v : V} {xs : List Pv} (r : Rel0 K mg cs μ U H) (h : RepV K mg U μ p v) (e : asT p = some xs) : ∃ a ws, v = .ref a ∧ SqT K H a ws ∧ RepVs K mg U μ xs ws := by
  cases h with
  | tup s q => cases e; exact ⟨_, _, rfl, r.vh.t s, q⟩
  | _ => cases e
/-- a new list, a new tuple, handed out -/
theorem out_lst {E : XK} {Q : VK} {ps : List Pv} {ws : List V} (r : Rel0 K mg cs μ U H) (q : RepVs K mg U μ ps ws) (h : Out K mg (RepV K mg) E U H μ (.ok (.lst ps) cs) Q) : ∀ p, H p = none → Q (.ref p) (upd H p (.lst ws)) := fun p hp => by
  obtain ⟨r1, g1⟩ := r.freeze (o := .lst ws) hp
  exact h _ _ _ _ g1 r1 (.lst (.of upd_same) (q.mono g1.vv g1.mm))
theorem out_tup {E : XK} {Q : VK} {ps : List Pv} {ws : List V} (r : Rel0 K mg cs μ U H) (q : RepVs K mg U μ ps ws) (h : Out K mg (RepV K mg) E U H μ (.ok (.tup ps) cs) Q) : ∀ p, H p = none → Q (.ref p) (upd H p (.tup ws)) := fun p hp => by
  obtain ⟨r1, g1⟩ := r.freeze (o := .tup ws) hp
  exact h _ _ _ _ g1 r1 (.tup (.of upd_same) (q.mono g1.vv g1.mm))
/-- a new mutable list -/
theorem out_cell {E : XK} {Q : VK} {ps : List Pv} {ws : List V} (r : Rel0 K mg cs μ U H) (q : RepVs K mg U μ ps ws) (h : Out K mg (RepV K mg) E U H μ (.ok (.ref cs.length) (cs ++ [.lst ps])) Q) : ∀ p, H p = none → Q (.ref p) (upd H p (.lst ws)) := fun p hp => by
  obtain ⟨r1, g1⟩ := r.hidden (o := .lst ws) hp
  have hm : p ∉ μ := fun z => r.there z hp
  have pm : μ <+: μ ++ [p] := List.prefix_append _ _
  have r2 := r1.cell (p := p) (c := .lst ps) ⟨ws, upd_same, q.mono (Ex.refl _) pm⟩ (r.vh.none hp) hm
  refine h _ U _ (μ ++ [p]) ⟨Ex.refl _, pm, fun a o h1 h2 h3 => ?_⟩ r2 (.ref ?_)
  · obtain ⟨a1, a2, a3⟩ := g1.hid a o h1 h2 h3
    refine ⟨a1, a2, fun z => ?_⟩
    rcases List.mem_append.mp z with z | z
    · exact a3 z
    · exact ne_of_none h1 hp (by simpa using z)
  · rw [← r.len, List.getElem?_append_right (Nat.le_refl _), Nat.sub_self]; rfl
/-- a value as it is -/
theorem out_val {E : XK} {Q : VK} {p : Pv} {v : V} (r : Rel0 K mg cs μ U H) (q : RepV K mg U μ p v) (h : Out K mg (RepV K mg) E U H μ (.ok p cs) Q) : Q v H := h _ _ _ _ Gr.refl r q
end

/-! ### arithmetic -/
def mulOk (i j : Int) : Bool := decide (i.natAbs.log2 + j.natAbs.log2 < 100000000)
theorem mulOk.ok {i j : Int} (h : mulOk i j = true) : IntMulOk i j := by
  have b : ∀ x : Int, Builtin.Int.intBits x ≤ x.natAbs.log2 + 1 := fun x => by
    unfold Builtin.Int.intBits
    split <;> omega
  have h1 := b i
  have h2 := b j
  have h3 : i.natAbs.log2 + j.natAbs.log2 < 100000000 := of_decide_eq_true h
  have e : bitsLine = 134217728 := by decide
  unfold IntMulOk
  intro z
  rw [Bool.and_eq_true] at z
  have z2 := z.2
  unfold Builtin.Int.intTooBig at z2
  have z3 := of_decide_eq_true z2
  rw [e] at z3
  omega
def fdivOk (j : Int) : Bool := decide (j ≠ 0) && decide (j.natAbs.log2 < 9000)
def powOk (i j : Int) : Bool := decide (0 ≤ j) && decide (j ≤ 1000000) && decide (i.natAbs < 2 ^ 64)
def fits (n : Nat) : Bool := decide (n ≤ 16777216)
theorem fits.ok {n : Nat} (h : fits n = true) : n ≤ sizeLine := by
  rw [sizeLine_eq]
  exact of_decide_eq_true h
def guard_ {α : Type} (b : Bool) (r : Res α) : Res α := if b = true then r else .bad
@[simp] theorem guard_true {α : Type} (r : Res α) : guard_ true r = r := rfl
theorem guard_of {α : Type} {b : Bool} (h : b = true) (r : Res α) : guard_ b r = r := if_pos h
section
variable {K : PySem.W.Frag} {mg : Str → Option Value}
theorem out_guard {α β : Type} {R : Hp → List Addr → α → β → Prop} {E : XK} {U H : Hp} {μ : List Addr} {b : Bool} {r : Res α} {Q : β → Hp → Prop} (h : Out K mg R E U H μ (guard_ b r) Q) : b = true ∧ Out K mg R E U H μ r Q := by
  unfold guard_ at h
  split at h
  · rename_i q; exact ⟨q, h⟩
  · exact h.elim
end

def oAdd : F2 := fun x y cs => match x, y with
  | .int i, .int j => .ok (.int (i + j)) cs
  | .str a, .str b => guard_ (fits (a.length + b.length)) (.ok (.str (a ++ b)) cs)
  | .tup a, .tup b => guard_ (fits (a.length + b.length)) (.ok (.tup (a ++ b)) cs)
  | x, y => match asL cs x, asL cs y with
    | some a, some b => guard_ (fits (a.length + b.length)) (.ok (.lst (a ++ b)) cs)
    | _, _ => .bad
def rCatL (K : PySem.W.Frag) : R2 := fun x y H Q => ∃ l b xs zs, x = .ref l ∧ y = .ref b ∧ SqL K H l xs ∧ SqL K H b zs ∧ xs.length + zs.length ≤ sizeLine ∧ ∀ p, H p = none → Q (.ref p) (upd H p (.lst (xs ++ zs)))
section
variable {X : Cx}
theorem op_catL : OpR X (binaryOp .Add) (rCatL X.K) := by
  intro pins s σ H x y v u Q I rx ry h
  obtain ⟨l, b, xs, zs, rfl, rfl, hl, hb, hz, q⟩ := h
  cases rx
  cases ry
  obtain ⟨its, r1, p1, _⟩ := I.list hl
  obtain ⟨its2, r2, p2, _⟩ := I.list hb
  obtain ⟨⟨cls, dd, data, sl⟩, ho, hc, n, hd⟩ := p1.isList
  obtain ⟨⟨cls2, dd2, data2, sl2⟩, ho2, hc2, n2, hd2⟩ := p2.isList
  simp only at hc hd hc2 hd2
  subst hc hd hc2 hd2
  have e : its.toArray ++ its2.toArray = (its ++ its2).toArray := by simp
  have l1 := r1.length
  have l2 := r2.length
  refine concat_meets ⟨_, ho, rfl⟩ ⟨_, ho2, rfl⟩ noFill_list_add seq_list_add PySem.F.slot_list_add PySem.F.entry_list_add (PySem.F.args_list_add_2 _ _) (list_addW l b its.toArray its2.toArray n n2 dd dd2 sl sl2 (by simp; omega)) ⟨ho, ho2, ?_⟩
  rw [e]
  exact ⟨.ref _, _, I.lnew (t' := s.toks) (r1.append r2) (by rw [List.length_append]; omega), rfl, q _ I.fresh⟩
end
def rAdd (K : PySem.W.Frag) : R2 := fun x y H Q => (rI0 fun i j => .int (i + j)) x y H Q ∨ (∃ i j, x = .str i ∧ y = .str j ∧ i.length + j.length ≤ sizeLine ∧ Q (.str (i ++ j)) H) ∨ rCatA K x y H Q ∨ rCatL K x y H Q
theorem op_addA {X : Cx} : OpR X (binaryOp .Add) (rAdd X.K) := op_add.or (op_add_str.or (op_catA.or op_catL))
theorem ok_add {K : PySem.W.Frag} {mg : Str → Option Value} : Ok2 K mg oAdd (rAdd K) := by
  intro E x y cs v w U H μ Q r hx hy h
  unfold oAdd at h
  split at h
  · cases hx; cases hy
    exact .inl ⟨_, _, rfl, rfl, out_val r (.int _) h⟩
  · cases hx; cases hy
    obtain ⟨hz, h⟩ := out_guard h
    exact .inr (.inl ⟨_, _, rfl, rfl, fits.ok hz, out_val r (.str _) h⟩)
  · rename_i a b
    obtain ⟨hz, h⟩ := out_guard h
    obtain ⟨a1, w1, rfl, s1, q1⟩ := asT_ok r hx rfl
    obtain ⟨a2, w2, rfl, s2, q2⟩ := asT_ok r hy rfl
    refine .inr (.inr (.inl ⟨a1, a2, w1, w2, rfl, rfl, s1, s2, ?_, fun e => ?_, fun e1 e2 => ?_, fun _ _ => out_tup r (q1.append q2) h⟩))
    · rw [← q1.length, ← q2.length]; exact fits.ok hz
    · have ea : a = [] := List.length_eq_zero_iff.mp (by rw [q1.length, e]; rfl)
      subst ea
      exact out_val r hy h
    · have eb : b = [] := List.length_eq_zero_iff.mp (by rw [q2.length, e2]; rfl)
      subst eb
      rw [List.append_nil] at h
      exact out_val r hx h
  · split at h
    · rename_i a b ea eb
      obtain ⟨hz, h⟩ := out_guard h
      obtain ⟨a1, w1, rfl, s1, q1⟩ := asL_ok r hx ea
      obtain ⟨a2, w2, rfl, s2, q2⟩ := asL_ok r hy eb
      refine .inr (.inr (.inr ⟨a1, a2, w1, w2, rfl, rfl, s1, s2, ?_, out_lst r (q1.append q2) h⟩))
      rw [← q1.length, ← q2.length]; exact fits.ok hz
    · exact h.elim
def oSub : F2 := fun x y cs => match x, y with
  | .int i, .int j => .ok (.int (i - j)) cs
  | _, _ => .bad
def oMul : F2 := fun x y cs => match x, y with
  | .int i, .int j => guard_ (mulOk i j) (.ok (.int (i * j)) cs)
  | _, _ => .bad
def oFdiv : F2 := fun x y cs => match x, y with
  | .int i, .int j => guard_ (fdivOk j) (.ok (.int (i.fdiv j)) cs)
  | _, _ => .bad
def oMod : F2 := fun x y cs => match x, y with
  | .int i, .int j => guard_ (decide (j ≠ 0)) (.ok (.int (i.fmod j)) cs)
  | _, _ => .bad
def oPow : F2 := fun x y cs => match x, y with
  | .int i, .int j => guard_ (powOk i j) (.ok (.int (i ^ j.toNat)) cs)
  | _, _ => .bad
theorem ok_sub {K : PySem.W.Frag} {mg : Str → Option Value} : Ok2 K mg oSub (rI0 fun i j => .int (i - j)) := by
  intro E x y cs v w U H μ Q r hx hy h
  unfold oSub at h
  split at h
  · cases hx; cases hy
    exact ⟨_, _, rfl, rfl, out_val r (.int _) h⟩
  · exact h.elim
def rMulG : R2 := rI (fun i j => mulOk i j = true) fun i j => .int (i * j)
theorem op_mulG {X : Cx} : OpR X (binaryOp .Mult) rMulG := opI fun _ _ _ _ _ _ _ hc q => mul_int q (mulOk.ok hc)
theorem ok_mul {K : PySem.W.Frag} {mg : Str → Option Value} : Ok2 K mg oMul rMulG := by
  intro E x y cs v w U H μ Q r hx hy h
  unfold oMul at h
  split at h
  · cases hx; cases hy
    obtain ⟨hz, h⟩ := out_guard h
    exact ⟨_, _, rfl, rfl, hz, out_val r (.int _) h⟩
  · exact h.elim
def rFdivG : R2 := rI (fun _ j => fdivOk j = true) fun i j => .int (i.fdiv j)
theorem op_fdivG {X : Cx} : OpR X (binaryOp .FloorDiv) rFdivG := opI fun i j _ _ _ _ _ hc q => by
  have hc := Bool.and_eq_true_iff.mp hc
  exact floordiv_int (of_decide_eq_true hc.1) q (.inl (PyProof.noPylong_of_log2 (of_decide_eq_true hc.2)))
theorem ok_fdiv {K : PySem.W.Frag} {mg : Str → Option Value} : Ok2 K mg oFdiv rFdivG := by
  intro E x y cs v w U H μ Q r hx hy h
  unfold oFdiv at h
  split at h
  · cases hx; cases hy
    obtain ⟨hz, h⟩ := out_guard h
    exact ⟨_, _, rfl, rfl, hz, out_val r (.int _) h⟩
  · exact h.elim
theorem ok_mod {K : PySem.W.Frag} {mg : Str → Option Value} : Ok2 K mg oMod (rI (fun _ j => j ≠ 0) fun i j => .int (i.fmod j)) := by
  intro E x y cs v w U H μ Q r hx hy h
  unfold oMod at h
  split at h
  · cases hx; cases hy
    obtain ⟨hz, h⟩ := out_guard h
    exact ⟨_, _, rfl, rfl, of_decide_eq_true hz, out_val r (.int _) h⟩
  · exact h.elim
theorem ok_pow {K : PySem.W.Frag} {mg : Str → Option Value} : Ok2 K mg oPow (rI CPow fun i j => .int (i ^ j.toNat)) := by
  intro E x y cs v w U H μ Q r hx hy h
  unfold oPow at h
  split at h
  · cases hx; cases hy
    obtain ⟨hz, h⟩ := out_guard h
    have h1 := Bool.and_eq_true_iff.mp hz
    have h2 := Bool.and_eq_true_iff.mp h1.1
    exact ⟨_, _, rfl, rfl, ⟨of_decide_eq_true h2.1, of_decide_eq_true h2.2, of_decide_eq_true h1.2⟩, out_val r (.int _) h⟩
  · exact h.elim
def oNeg : Pv → Cells → Res Pv := fun x cs => match x with
  | .int i => .ok (.int (-i)) cs
  | _ => .bad
theorem ok_neg {K : PySem.W.Frag} {mg : Str → Option Value} : Ok1 K mg oNeg (rU fun i => .int (-i)) := by
  intro E x cs v U H μ Q r hx h
  unfold oNeg at h
  split at h
  · cases hx
    exact ⟨_, rfl, out_val r (.int _) h⟩
  · exact h.elim

/-! ### comparisons -/
def oCmpI (p : Int → Int → Bool) : F2 := fun x y cs => match x, y with
  | .int i, .int j => .ok (.bl (p i j)) cs
  | _, _ => .bad
abbrev oLt : F2 := oCmpI fun i j => decide (i < j)
abbrev oLe : F2 := oCmpI fun i j => decide (i ≤ j)
abbrev oGt : F2 := oCmpI fun i j => decide (j < i)
abbrev oGe : F2 := oCmpI fun i j => decide (j ≤ i)
theorem ok_cmpI {K : PySem.W.Frag} {mg : Str → Option Value} {p : Int → Int → Bool} : Ok2 K mg (oCmpI p) (rI0 fun i j => .bl (p i j)) := by
  intro E x y cs v w U H μ Q r hx hy h
  unfold oCmpI at h
  split at h
  · cases hx; cases hy
    exact ⟨_, _, rfl, rfl, out_val r (.bl _) h⟩
  · exact h.elim
/-! data, as the library compares them -/
mutual
def toPy : Pv → Option PyData
  | .non => some .none
  | .bl b => some (.bool b)
  | .int i => some (.int i)
  | .str x => some (.str x)
  | .tup xs => (toPys xs).map .tuple
  | .lst xs => (toPys xs).map .list
  | _ => none
def toPys : List Pv → Option (List PyData)
  | [] => some []
  | x :: xs => match toPy x, toPys xs with
    | some d, some ds => some (d :: ds)
    | _, _ => none
end
def deref (cs : Cells) : Pv → Pv
  | .ref k => match cs[k]? with
    | some (.lst xs) => .lst xs
    | _ => .ref k
  | p => p
mutual
theorem toPy_ok {K : PySem.W.Frag} {mg : Str → Option Value} {U H : Hp} {μ : List Addr} (e : Ex U H) : ∀ {p : Pv} {v : V} {d : PyData}, RepV K mg U μ p v → toPy p = some d → Dp K H v d
  | _, _, _, .non, h => by cases h; exact .non
  | _, _, _, .bl b, h => by cases h; exact .bl b
  | _, _, _, .int i, h => by cases h; exact .int i
  | _, _, _, .str x, h => by cases h; exact .str x
  | _, _, _, .tup s r, h => by
    obtain ⟨ds, h1, h2⟩ := Option.map_eq_some_iff.mp h
    subst h2
    exact .tup (e.t s) (toPys_ok e r h1)
  | _, _, _, .lst s r, h => by
    obtain ⟨ds, h1, h2⟩ := Option.map_eq_some_iff.mp h
    subst h2
    exact .lst (e.l s) (toPys_ok e r h1)
  | _, _, _, .ref _, h => by cases h
  | _, _, _, .obj _ _ _ _, h => by cases h
  | _, _, _, .glo _, h => by cases h
  | _, _, _, .ty _, h => by cases h
theorem toPys_ok {K : PySem.W.Frag} {mg : Str → Option Value} {U H : Hp} {μ : List Addr} (e : Ex U H) : ∀ {ps : List Pv} {vs : List V} {ds : List PyData}, RepVs K mg U μ ps vs → toPys ps = some ds → DpAll K H vs ds
  | _, _, _, .nil, h => by cases h; exact .nil
  | _, _, _, .cons (p := p) (ps := ps) r rs, h => by
    unfold toPys at h
    split at h
    · rename_i d ds h1 h2
      cases h
      exact .cons (toPy_ok e r h1) (toPys_ok e rs h2)
    · cases h
end
theorem deref_ok {K : PySem.W.Frag} {mg : Str → Option Value} {U H : Hp} {μ : List Addr} {cs : Cells} {p : Pv} {v : V} {d : PyData} (r : Rel0 K mg cs μ U H) (h : RepV K mg U μ p v) (e : toPy (deref cs p) = some d) : Dp K H v d := by
  unfold deref at e
  split at e
  · rename_i k
    cases h with
    | ref m =>
      split at e
      · rename_i xs hk
        obtain ⟨ds, h1, h2⟩ := Option.map_eq_some_iff.mp e
        subst h2
        obtain ⟨ws, q1, q2⟩ := r.cel k _ _ hk m
        exact .lst (.of q1) (toPys_ok r.vh q2 h1)
      · cases e
  · exact toPy_ok r.vh h e
def eqD (neg : Bool) : F2 := fun x y cs => match toPy (deref cs x), toPy (deref cs y) with
  | some d, some e => guard_ (SeqAt.shaped d && SeqAt.shaped e) (.ok (.bl (if neg then !PyData.eqv d e else PyData.eqv d e)) cs)
  | _, _ => .bad
abbrev oEq : F2 := eqD false
abbrev oNe : F2 := eqD true
theorem ok_eqD {K : PySem.W.Frag} {mg : Str → Option Value} : Ok2 K mg oEq (rEqD K) := by
  intro E x y cs v w U H μ Q r hx hy h
  unfold oEq eqD at h
  split at h
  · rename_i d e h1 h2
    obtain ⟨hz, h⟩ := out_guard h
    have hz := Bool.and_eq_true_iff.mp hz
    exact ⟨d, e, deref_ok r hx h1, deref_ok r hy h2, hz.1, hz.2, out_val r (.bl _) h⟩
  · exact h.elim
theorem ok_neD {K : PySem.W.Frag} {mg : Str → Option Value} : Ok2 K mg oNe (rNeD K) := by
  intro E x y cs v w U H μ Q r hx hy h
  unfold oNe eqD at h
  split at h
  · rename_i d e h1 h2
    obtain ⟨hz, h⟩ := out_guard h
    have hz := Bool.and_eq_true_iff.mp hz
    exact ⟨d, e, deref_ok r hx h1, deref_ok r hy h2, hz.1, hz.2, out_val r (.bl _) h⟩
  · exact h.elim

/-! ### items, slices -/
theorem atI_rep {K : PySem.W.Frag} {mg : Str → Option Value} {U : Hp} {μ : List Addr} {ps : List Pv} {ws : List V} {i : Int} {p : Pv} (q : RepVs K mg U μ ps ws) (h : atI ps i = some p) : ∃ v, atI ws i = some v ∧ RepV K mg U μ p v := by
  unfold atI at h ⊢
  rw [← q.length]
  cases e : ixN ps.length i with
  | none => rw [e] at h; cases h
  | some j =>
    rw [e] at h
    exact q.at h
def oIx : F2 := fun x y cs => match x, y with
  | .str z, .int i => match atI z.cps.toList i with
    | some c => guard_ (fits z.length) (.ok (.str ⟨#[c]⟩) cs)
    | none => .bad
  | .tup xs, .int i => match atI xs i with
    | some v => .ok v cs
    | none => .bad
  | x, .int i => match asL cs x with
    | some xs => match atI xs i with
      | some v => .ok v cs
      | none => .bad
    | none => .bad
  | _, _ => .bad
theorem ok_ix {K : PySem.W.Frag} {mg : Str → Option Value} : Ok2 K mg oIx (rIx K) := by
  intro E x y cs v w U H μ Q r hx hy h
  unfold oIx at h
  split at h
  · cases hx; cases hy
    split at h
    · rename_i c hc
      obtain ⟨hz, h⟩ := out_guard h
      exact .inr (.inr ⟨_, _, c, rfl, rfl, fits.ok hz, hc, out_val r (.str _) h⟩)
    · exact h.elim
  · cases hy
    split at h
    · rename_i p hp
      obtain ⟨a, ws, rfl, s, q⟩ := asT_ok r hx rfl
      obtain ⟨u, h1, h2⟩ := atI_rep q hp
      exact .inr (.inl ⟨a, ws, _, u, rfl, rfl, s, h1, out_val r h2 h⟩)
    · exact h.elim
  · cases hy
    split at h
    · rename_i xs hxs
      split at h
      · rename_i p hp
        obtain ⟨a, ws, rfl, s, q⟩ := asL_ok r hx hxs
        obtain ⟨u, h1, h2⟩ := atI_rep q hp
        exact .inl ⟨a, ws, _, u, rfl, rfl, s, h1, out_val r h2 h⟩
      · exact h.elim
    · exact h.elim
  · exact h.elim
def cut {α : Type} (xs : List α) (lo hi : Option Int) : List α := (xs.drop (HT.sIx xs.length 0 lo)).take (HT.sIx xs.length xs.length hi - HT.sIx xs.length 0 lo)
theorem cut_rep {K : PySem.W.Frag} {mg : Str → Option Value} {U : Hp} {μ : List Addr} {ps : List Pv} {ws : List V} (q : RepVs K mg U μ ps ws) (lo hi : Option Int) : RepVs K mg U μ (cut ps lo hi) (cutV ws lo hi) := by
  unfold cut cutV
  rw [← q.length]
  exact (q.drop _).take _
end AL

set_option Elab.async false
set_option linter.all false
set_option autoImplicit false
set_option maxRecDepth 100000
set_option maxHeartbeats 4000000
/-! Own layer, part 4: tests, arguments, calls, displays, slices, plain statements. -/
namespace AL
open PySem PySem.Spec PyProof.Rows L2

/-! ### tests -/
def tru : Pv → Cells → Res Bool := fun v cs => match v with
  | .bl b => .ok b cs
  | .non => .ok false cs
  | .int i => .ok (i != 0) cs
  | .str y => guard_ (fits y.length) (.ok ((y.length : Int) != 0) cs)
  | .tup xs => .ok (!xs.isEmpty) cs
  | v => match asL cs v with
    | some xs => .ok (!xs.isEmpty) cs
    | none => match v with
      | .ref k => match cs[k]? with
        | some (.dK kvs) => .ok (!kvs.isEmpty) cs
        | _ => .bad
      | _ => .bad
def fTru (f : FE) : FT := fun sl cs => (f sl cs).bind tru
def fTst (f : FE) : FT := fun sl cs => (f sl cs).bind fun v cs => match v with
  | .bl b => .ok b cs
  | _ => .bad
def fNot (f : FT) : FT := fun sl cs => (f sl cs).bind fun b cs => .ok (!b) cs
def fAnd (f g : FT) : FT := fun sl cs => (f sl cs).bind fun b cs1 => if b = true then g sl cs1 else .ok false cs1
def fOr (f g : FT) : FT := fun sl cs => (f sl cs).bind fun b cs1 => if b = true then .ok true cs1 else g sl cs1
def fIfE (c : FT) (f g : FE) : FE := fun sl cs => (c sl cs).bind fun b cs1 => if b = true then f sl cs1 else g sl cs1
def fAndV (f g : FE) : FE := fun sl cs => (f sl cs).bind fun v cs1 => match v with
  | .bl b => if b = true then g sl cs1 else .ok (.bl false) cs1
  | _ => .bad
def fOrV (f g : FE) : FE := fun sl cs => (f sl cs).bind fun v cs1 => match v with
  | .bl b => if b = true then .ok (.bl true) cs1 else g sl cs1
  | _ => .bad
def fNotV (f : FE) : FE := fun sl cs => (f sl cs).bind fun v cs1 => match v with
  | .bl b => .ok (.bl (!b)) cs1
  | _ => .bad
def fChain (o o' : F2) (f g h : FE) : FE := fun sl cs => (f sl cs).bind fun x cs1 => (g sl cs1).bind fun y cs2 => (o x y cs2).bind fun z cs3 => match z with
  | .bl b => if b = true then (h sl cs3).bind fun w cs4 => o' y w cs4 else .ok (.bl false) cs3
  | _ => .bad
section
variable {K : PySem.W.Frag} {mg : Str → Option Value} {U H : Hp} {μ : List Addr} {cs : Cells}
theorem RepVs.isEmpty {ps : List Pv} {ws : List V} (q : RepVs K mg U μ ps ws) : ps.isEmpty = ws.isEmpty := by cases q <;> rfl
theorem tru_of {E : XK} {v : Pv} {x : V} {Q : Bool → Hp → Prop} (r : Rel0 K mg cs μ U H) (hx : RepV K mg U μ v x) (h : Out K mg (fun _ _ a b => a = b) E U H μ (tru v cs) Q) : ∃ k, TruV K x H k ∧ Q k H := by
  have go : ∀ {b : Bool}, Out K mg (fun _ _ a b => a = b) E U H μ (.ok b cs) Q → Q b H := fun h => h _ _ _ _ Gr.refl r rfl
  unfold tru at h
  split at h
  · cases hx; exact ⟨_, rfl, go h⟩
  · cases hx; exact ⟨_, rfl, go h⟩
  · cases hx; exact ⟨_, rfl, go h⟩
  · cases hx
    obtain ⟨hz, h⟩ := out_guard h
    exact ⟨_, ⟨fits.ok hz, rfl⟩, go h⟩
  · obtain ⟨a, ws, rfl, s, q⟩ := asT_ok r hx rfl
    exact ⟨_, .inr (.inl ⟨ws, s, by rw [← q.isEmpty]⟩), go h⟩
  · split at h
    · rename_i xs e
      obtain ⟨a, ws, rfl, s, q⟩ := asL_ok r hx e
      exact ⟨_, .inl ⟨ws, s, by rw [← q.isEmpty]⟩, go h⟩
    · split at h
      · rename_i k _ _ _ _ _ _ _
        cases hx with
        | ref m =>
          split at h
          · rename_i kvs hk
            obtain ⟨ws, h1, h2, h3⟩ := r.cel _ _ _ hk m
            refine ⟨_, .inr (.inr ⟨ws, h1, ?_⟩), go h⟩
            cases kvs with
            | nil => cases ws with
              | nil => rfl
              | cons _ _ => cases h2
            | cons _ _ => cases ws with
              | nil => cases h2
              | cons _ _ => rfl
          · exact h.elim
      · exact h.elim
end
section
variable {X : Cx} {W : WX} {f g h : FE} {c d : FT} {a b e : Expr} {es rest : List Expr} {pos : Pos}
theorem t_val (ha : PE X a (rdE X.K X.mg W f)) (he : ∀ whole, isTrue a X.env whole = (do let v ← whole; standAt a.pos; holding [v] (truthy v)) := by intro _; rfl) : PT X a (rdT X.K X.mg W (fTru f)) := by
  refine PT.le (pt_truth ha he) fun σ H Q q => ?_
  obtain ⟨sl, cs, μ, U, r0, rs, q⟩ := q
  exact ⟨sl, cs, μ, U, r0, rs, Out.seq q fun x cs1 w U1 H1 μ1 _ g1 r1 p1 h1 => tru_of r1 p1 h1⟩
theorem rd_tst {te : TE} {t : FE} (l : ∀ σ H Q, rdE X.K X.mg W t σ H Q → te σ H Q) (σ : L2.St) (H : Hp) (Q : Bool → Hp → Prop) (q : rdT X.K X.mg W (fTst t) σ H Q) : tTest te σ H Q := by
  refine l σ H _ ?_
  obtain ⟨sl, cs, μ, U, r0, rs, q⟩ := q
  refine ⟨sl, cs, μ, U, r0, rs, Out.seq q fun x cs1 w U1 H1 μ1 _ g1 r1 p1 h1 => ?_⟩
  split at h1
  · cases p1
    exact ⟨_, rfl, h1 _ _ _ _ Gr.refl r1 rfl⟩
  · exact h1.elim
theorem t_cmp {op : CmpOp} {o : F2} {r : R2} (ho : OpR X (compareOp op) r) (hr : Ok2 X.K X.mg o r) (ha : PE X a (rdE X.K X.mg W f)) (hb : PE X b (rdE X.K X.mg W g)) (hm : behindInMarks op b = false := by first | exact nomark _ | rfl) : PT X (.Compare a [op] [b] pos) (rdT X.K X.mg W (fTst (f2 o f g))) :=
  PT.le (pt_cmpR ho ha hb hm) (rd_tst (rd_op hr))
theorem rd_chain {o o' : F2} {r r' : R2} (hr : Ok2 X.K X.mg o r) (hr' : Ok2 X.K X.mg o' r') (σ : L2.St) (H : Hp) (Q : VK) (q : rdE X.K X.mg W (fChain o o' f g h) σ H Q) : tChain r r' (rdE X.K X.mg W f) (rdE X.K X.mg W g) (rdE X.K X.mg W h) σ H Q := by
  obtain ⟨sl, cs, μ, U, r0, rs, q⟩ := q
  refine ⟨sl, cs, μ, U, r0, rs, Out.seq q fun x cs1 w U1 H1 μ1 _ g1 r1 p1 h1 => ⟨sl, cs1, μ1, U1, r1, rs.mono g1, Out.seq h1 fun y cs2 w2 U2 H2 μ2 _ g2 r2 p2 h2 => ?_⟩⟩
  refine hr _ x y cs2 w w2 U2 H2 μ2 _ r2 (p1.mono g2.vv g2.mm) p2 (Out.seq h2 fun z cs3 w3 U3 H3 μ3 _ g3 r3 p3 h3 => ?_)
  split at h3
  · cases p3
    rename_i b _
    refine ⟨b, rfl, ?_⟩
    cases b with
    | true =>
      rw [if_pos rfl] at h3 ⊢
      refine ⟨sl, cs3, μ3, U3, r3, ((rs.mono g1).mono g2).mono g3, Out.seq h3 fun z4 cs4 w4 U4 H4 μ4 _ g4 r4 p4 h4 => ?_⟩
      exact hr' _ y z4 cs4 w2 w4 U4 H4 μ4 Q r4 ((p2.mono g3.vv g3.mm).mono g4.vv g4.mm) p4 h4
    | false =>
      rw [if_neg Bool.false_ne_true] at h3 ⊢
      exact out_val r3 (.bl _) h3
  · exact h3.elim
variable {cc : Expr}
theorem b_chain {op op' : CmpOp} {o o' : F2} {r r' : R2} (ho : OpR X (compareOp op) r) (ho' : OpR X (compareOp op') r') (hr : Ok2 X.K X.mg o r) (hr' : Ok2 X.K X.mg o' r') (ha : PE X a (rdE X.K X.mg W f)) (hb : PE X b (rdE X.K X.mg W g)) (hc : PE X cc (rdE X.K X.mg W h))
    (hm : lastMarks [op, op'] [b, cc] = false := by with_unfolding_all rfl) : PE X (.Compare a [op, op'] [b, cc] pos) (rdE X.K X.mg W (fChain o o' f g h)) := PE.le (pe_chain ho ho' ha hb hc hm) (rd_chain hr hr')
theorem t_chain {op op' : CmpOp} {o o' : F2} {r r' : R2} (ho : OpR X (compareOp op) r) (ho' : OpR X (compareOp op') r') (hr : Ok2 X.K X.mg o r) (hr' : Ok2 X.K X.mg o' r') (ha : PE X a (rdE X.K X.mg W f)) (hb : PE X b (rdE X.K X.mg W g)) (hc : PE X cc (rdE X.K X.mg W h))
    (hm : lastMarks [op, op'] [b, cc] = false := by with_unfolding_all rfl) : PT X (.Compare a [op, op'] [b, cc] pos) (rdT X.K X.mg W (fTst (fChain o o' f g h))) := PT.le (pt_chain ho ho' ha hb hc hm) (rd_tst (rd_chain hr hr'))
theorem t_not (ha : PT X a (rdT X.K X.mg W c)) : PT X (.UnaryOp .Not a pos) (rdT X.K X.mg W (fNot c)) := by
  refine PT.le (pt_not ha) fun σ H Q q => ?_
  obtain ⟨sl, cs, μ, U, r0, rs, q⟩ := q
  exact ⟨sl, cs, μ, U, r0, rs, Out.seq q fun x cs1 w U1 H1 μ1 _ g1 r1 p1 h1 => h1 _ _ _ _ Gr.refl r1 (congrArg _ p1)⟩
theorem w_and1 (ha : PT X a (rdT X.K X.mg W c)) : PW X (.BoolOp .And [a] pos) (rdT X.K X.mg W c) := pw_and1 ha
theorem w_or1 (ha : PT X a (rdT X.K X.mg W c)) : PW X (.BoolOp .Or [a] pos) (rdT X.K X.mg W c) := pw_or1 ha
theorem w_and (ha : PT X a (rdT X.K X.mg W c)) (hb : PW X (.BoolOp .And (b :: rest) pos) (rdT X.K X.mg W d)) : PW X (.BoolOp .And (a :: b :: rest) pos) (rdT X.K X.mg W (fAnd c d)) := by
  refine PW.le (pw_and ha hb) fun σ H Q q => ?_
  obtain ⟨sl, cs, μ, U, r0, rs, q⟩ := q
  refine ⟨sl, cs, μ, U, r0, rs, Out.seq q fun x cs1 w U1 H1 μ1 _ g1 r1 p1 h1 => ?_⟩
  subst p1
  cases x with
  | true => rw [if_pos rfl] at h1 ⊢; exact ⟨sl, cs1, μ1, U1, r1, rs.mono g1, h1⟩
  | false => rw [if_neg Bool.false_ne_true] at h1 ⊢; exact h1 _ _ _ _ Gr.refl r1 rfl
theorem w_or (ha : PT X a (rdT X.K X.mg W c)) (hb : PW X (.BoolOp .Or (b :: rest) pos) (rdT X.K X.mg W d)) : PW X (.BoolOp .Or (a :: b :: rest) pos) (rdT X.K X.mg W (fOr c d)) := by
  refine PW.le (pw_or ha hb) fun σ H Q q => ?_
  obtain ⟨sl, cs, μ, U, r0, rs, q⟩ := q
  refine ⟨sl, cs, μ, U, r0, rs, Out.seq q fun x cs1 w U1 H1 μ1 _ g1 r1 p1 h1 => ?_⟩
  subst p1
  cases x with
  | true => rw [if_pos rfl] at h1 ⊢; exact h1 _ _ _ _ Gr.refl r1 rfl
  | false => rw [if_neg Bool.false_ne_true] at h1 ⊢; exact ⟨sl, cs1, μ1, U1, r1, rs.mono g1, h1⟩
theorem b_ifE (hc : PT X cc (rdT X.K X.mg W c)) (ha : PE X a (rdE X.K X.mg W f)) (hb : PE X b (rdE X.K X.mg W g)) : PE X (.IfExp cc a b pos) (rdE X.K X.mg W (fIfE c f g)) := by
  refine PE.le (pe_ifExp hc ha hb) fun σ H Q q => ?_
  obtain ⟨sl, cs, μ, U, r0, rs, q⟩ := q
  refine ⟨sl, cs, μ, U, r0, rs, Out.seq q fun x cs1 w U1 H1 μ1 _ g1 r1 p1 h1 => ?_⟩
  subst p1
  cases x with
  | true => rw [if_pos rfl] at h1 ⊢; exact ⟨sl, cs1, μ1, U1, r1, rs.mono g1, h1⟩
  | false => rw [if_neg Bool.false_ne_true] at h1 ⊢; exact ⟨sl, cs1, μ1, U1, r1, rs.mono g1, h1⟩
theorem b_one {op} (h : PE X a (rdE X.K X.mg W f)) : PE X (.BoolOp op [a] pos) (rdE X.K X.mg W f) := pe_one h
theorem b_and (ha : PE X a (rdE X.K X.mg W f)) (hb : PE X (.BoolOp .And (b :: rest) pos) (rdE X.K X.mg W g)) : PE X (.BoolOp .And (a :: b :: rest) pos) (rdE X.K X.mg W (fAndV f g)) := by
  refine PE.le (pe_and ha hb) fun σ H Q q => ?_
  obtain ⟨sl, cs, μ, U, r0, rs, q⟩ := q
  refine ⟨sl, cs, μ, U, r0, rs, Out.seq q fun x cs1 w U1 H1 μ1 _ g1 r1 p1 h1 => ?_⟩
  split at h1
  · cases p1
    rename_i b' _
    refine ⟨b', rfl, ?_⟩
    cases b' with
    | true => rw [if_pos rfl] at h1 ⊢; exact ⟨sl, cs1, μ1, U1, r1, rs.mono g1, h1⟩
    | false => rw [if_neg Bool.false_ne_true] at h1 ⊢; exact out_val r1 (.bl _) h1
  · exact h1.elim
theorem b_or (ha : PE X a (rdE X.K X.mg W f)) (hb : PE X (.BoolOp .Or (b :: rest) pos) (rdE X.K X.mg W g)) : PE X (.BoolOp .Or (a :: b :: rest) pos) (rdE X.K X.mg W (fOrV f g)) := by
  refine PE.le (pe_or ha hb) fun σ H Q q => ?_
  obtain ⟨sl, cs, μ, U, r0, rs, q⟩ := q
  refine ⟨sl, cs, μ, U, r0, rs, Out.seq q fun x cs1 w U1 H1 μ1 _ g1 r1 p1 h1 => ?_⟩
  split at h1
  · cases p1
    rename_i b' _
    refine ⟨b', rfl, ?_⟩
    cases b' with
    | true => rw [if_pos rfl] at h1 ⊢; exact out_val r1 (.bl _) h1
    | false => rw [if_neg Bool.false_ne_true] at h1 ⊢; exact ⟨sl, cs1, μ1, U1, r1, rs.mono g1, h1⟩
  · exact h1.elim
theorem b_not (ha : PE X a (rdE X.K X.mg W f)) : PE X (.UnaryOp .Not a pos) (rdE X.K X.mg W (fNotV f)) := by
  refine PE.le (pe_not ha) fun σ H Q q => ?_
  obtain ⟨sl, cs, μ, U, r0, rs, q⟩ := q
  refine ⟨sl, cs, μ, U, r0, rs, Out.seq q fun x cs1 w U1 H1 μ1 _ g1 r1 p1 h1 => ?_⟩
  split at h1
  · cases p1
    exact ⟨_, rfl, out_val r1 (.bl _) h1⟩
  · exact h1.elim
end

/-! ### arguments -/
def fNil : FA := fun _ cs => .ok [] cs
def fCons (f : FE) (r : FA) : FA := fun sl cs => (f sl cs).bind fun v cs1 => (r sl cs1).bind fun vs cs2 => .ok (v :: vs) cs2
section
variable {X : Cx} {W : WX} {f : FE} {t : FA} {e : Expr} {es : List Expr} {pos : Pos}
theorem a_nil : PA X [] (rdA X.K X.mg W fNil) := PA.le pa_nil fun σ H Q q => by
  obtain ⟨sl, cs, μ, U, r0, rs, q⟩ := q
  exact q _ _ _ _ Gr.refl r0 .nil
theorem rd_cons (σ : L2.St) (H : Hp) (Q : List V → Hp → Prop) (q : rdA X.K X.mg W (fCons f t) σ H Q) : tCons (rdE X.K X.mg W f) (rdA X.K X.mg W t) σ H Q := by
  obtain ⟨sl, cs, μ, U, r0, rs, q⟩ := q
  refine ⟨sl, cs, μ, U, r0, rs, Out.seq q fun x cs1 w U1 H1 μ1 _ g1 r1 p1 h1 => ⟨sl, cs1, μ1, U1, r1, rs.mono g1, Out.seq h1 fun xs cs2 ws U2 H2 μ2 _ g2 r2 p2 h2 => ?_⟩⟩
  exact h2 _ _ _ _ Gr.refl r2 (.cons (p1.mono g2.vv g2.mm) p2)
theorem a_cons (ha : PE X e (rdE X.K X.mg W f)) (hr : PA X es (rdA X.K X.mg W t)) (hs : starEach (e :: es) X.env = (false, eval e X.env) :: starEach es X.env := by rfl) : PA X (e :: es) (rdA X.K X.mg W (fCons f t)) :=
  PA.le (pa_cons ha hr hs) rd_cons
end

/-! ### displays -/
def fTup (t : FA) : FE := fun sl cs => (t sl cs).bind fun vs cs1 => guard_ (fits vs.length) (.ok (.tup vs) cs1)
def fLst (t : FA) : FE := fun sl cs => (t sl cs).bind fun vs cs1 => guard_ (fits vs.length) (.ok (.lst vs) cs1)
def fLstC (t : FA) : FE := fun sl cs => (t sl cs).bind fun vs cs1 => guard_ (fits vs.length) (.ok (.ref cs1.length) (cs1 ++ [.lst vs]))
section
variable {X : Cx} {W : WX} {t : FA} {es : List Expr} {pos : Pos}
theorem b_tup {x1} (h : PA X es (rdA X.K X.mg W t)) : PE X (.Tuple es x1 pos) (rdE X.K X.mg W (fTup t)) := PE.le (pe_tup h) fun σ H Q q => by
  obtain ⟨sl, cs, μ, U, r0, rs, q⟩ := q
  refine ⟨sl, cs, μ, U, r0, rs, Out.seq q fun x cs1 w U1 H1 μ1 _ g1 r1 p1 h1 => ?_⟩
  obtain ⟨hz, h1⟩ := out_guard h1
  exact ⟨by rw [← p1.length]; exact fits.ok hz, out_tup r1 p1 h1⟩
theorem b_lst (h : PA X es (rdA X.K X.mg W t)) : PE X (.List es pos) (rdE X.K X.mg W (fLst t)) := PE.le (pe_lst h) fun σ H Q q => by
  obtain ⟨sl, cs, μ, U, r0, rs, q⟩ := q
  refine ⟨sl, cs, μ, U, r0, rs, Out.seq q fun x cs1 w U1 H1 μ1 _ g1 r1 p1 h1 => ?_⟩
  obtain ⟨hz, h1⟩ := out_guard h1
  exact ⟨by rw [← p1.length]; exact fits.ok hz, out_lst r1 p1 h1⟩
theorem b_lstC (h : PA X es (rdA X.K X.mg W t)) : PE X (.List es pos) (rdE X.K X.mg W (fLstC t)) := PE.le (pe_lst h) fun σ H Q q => by
  obtain ⟨sl, cs, μ, U, r0, rs, q⟩ := q
  refine ⟨sl, cs, μ, U, r0, rs, Out.seq q fun x cs1 w U1 H1 μ1 _ g1 r1 p1 h1 => ?_⟩
  obtain ⟨hz, h1⟩ := out_guard h1
  exact ⟨by rw [← p1.length]; exact fits.ok hz, out_cell r1 p1 h1⟩
end

/-! ### subscripts, slices -/
abbrev FO := Sl → Cells → Res (Option Int)
def fNoPart : FO := fun _ cs => .ok none cs
def fPart (f : FE) : FO := fun sl cs => (f sl cs).bind fun v cs1 => match v with
  | .int i => .ok (some i) cs1
  | _ => .bad
def rdO (K : PySem.W.Frag) (mg : Str → Option Value) (W : WX) (f : FO) : TO := fun σ H Q => ∃ sl cs μ U, Rel0 K mg cs μ U H ∧ RelS K mg U μ sl σ ∧ Out K mg (fun _ _ a b => a = b) (fun c d H => W c d σ H) U H μ (f sl cs) Q
theorem PO.le {X : Cx} {e : Option Expr} {t t' : TO} (h : PO X e t) (l : ∀ σ H Q, t' σ H Q → t σ H Q) : PO X e t' := ⟨fun pins s σ H Q I q => h.run pins s σ H Q I (l σ H Q q)⟩
def oSlc (x : Pv) (lo hi : Option Int) (cs : Cells) : Res Pv := match x with
  | .str z => guard_ (fits z.length) (.ok (.str (cutS z lo hi)) cs)
  | .tup xs => .ok (.tup (cut xs lo hi)) cs
  | x => match asL cs x with
    | some xs => .ok (.lst (cut xs lo hi)) cs
    | none => .bad
def fSlc (f : FE) (lo hi : FO) : FE := fun sl cs => (f sl cs).bind fun x cs1 => (lo sl cs1).bind fun l cs2 => (hi sl cs2).bind fun h cs3 => oSlc x l h cs3
section
variable {X : Cx} {W : WX} {f g : FE} {lo hi : FO} {a b : Expr} {l h : Option Expr} {pos p2 : Pos}
theorem b_ix (ha : PE X a (rdE X.K X.mg W f)) (hb : PE X b (rdE X.K X.mg W g)) (hs : PlainIx b := by exact fun _ _ => rfl) : PE X (.Subscript a b pos) (rdE X.K X.mg W (f2 oIx f g)) := PE.le (pe_ix ix_seq ha hb hs) (rd_op ok_ix)
theorem o_none : PO X none (rdO X.K X.mg W fNoPart) := PO.le po_none fun σ H Q q => by
  obtain ⟨sl, cs, μ, U, r0, rs, q⟩ := q
  exact q _ _ _ _ Gr.refl r0 rfl
theorem o_some (ha : PE X a (rdE X.K X.mg W f)) : PO X (some a) (rdO X.K X.mg W (fPart f)) := PO.le (po_some ha) fun σ H Q q => by
  obtain ⟨sl, cs, μ, U, r0, rs, q⟩ := q
  refine ⟨sl, cs, μ, U, r0, rs, Out.seq q fun x cs1 w U1 H1 μ1 _ g1 r1 p1 h1 => ?_⟩
  split at h1
  · cases p1
    exact ⟨_, rfl, h1 _ _ _ _ Gr.refl r1 rfl⟩
  · exact h1.elim
def rSlc (K : PySem.W.Frag) : V → Option Int → Option Int → Hp → VK → Prop := fun x lo hi H Q => rSlS x lo hi H Q ∨ rSlA K x lo hi H Q ∨ rSlL K x lo hi H Q
theorem sl_all : SlR X (rSlc X.K) := sl_str.or (sl_tupA.or sl_list)
theorem slc_ok {K : PySem.W.Frag} {mg : Str → Option Value} {E : XK} {x : Pv} {l h : Option Int} {cs : Cells} {v : V} {U H : Hp} {μ : List Addr} {Q : VK} (r : Rel0 K mg cs μ U H) (hx : RepV K mg U μ x v) (q : Out K mg (RepV K mg) E U H μ (oSlc x l h cs) Q) : rSlc K v l h H Q := by
  unfold oSlc at q
  split at q
  · cases hx
    obtain ⟨hz, q⟩ := out_guard q
    exact .inl ⟨_, rfl, fits.ok hz, out_val r (.str _) q⟩
  · obtain ⟨a, ws, rfl, s, rp⟩ := asT_ok r hx rfl
    refine .inr (.inl ⟨a, ws, rfl, s, fun e => ?_, fun _ => out_tup r (cut_rep rp l h) q⟩)
    rename_i xs
    have ec : cut xs l h = xs := by
      unfold cut
      rw [rp.length, e.1, e.2, List.drop_zero, Nat.sub_zero, ← rp.length]
      exact List.take_length
    rw [ec] at q
    exact out_val r hx q
  · split at q
    · rename_i xs e
      obtain ⟨a, ws, rfl, s, rp⟩ := asL_ok r hx e
      exact .inr (.inr ⟨a, ws, rfl, s, out_lst r (cut_rep rp l h) q⟩)
    · exact q.elim
theorem b_slc (ha : PE X a (rdE X.K X.mg W f)) (hl : PO X l (rdO X.K X.mg W lo)) (hh : PO X h (rdO X.K X.mg W hi)) : PE X (.Subscript a (.Slice l h none p2) pos) (rdE X.K X.mg W (fSlc f lo hi)) := PE.le (pe_slice sl_all ha hl hh) fun σ H Q q => by
  obtain ⟨sl, cs, μ, U, r0, rs, q⟩ := q
  refine ⟨sl, cs, μ, U, r0, rs, Out.seq q fun x cs1 w U1 H1 μ1 _ g1 r1 p1 h1 => ⟨sl, cs1, μ1, U1, r1, rs.mono g1, Out.seq h1 fun y cs2 w2 U2 H2 μ2 _ g2 r2 p2 h2 => ⟨sl, cs2, μ2, U2, r2, (rs.mono g1).mono g2, Out.seq h2 fun z cs3 w3 U3 H3 μ3 _ g3 r3 p3 h3 => ?_⟩⟩⟩
  subst p2
  subst p3
  exact slc_ok r3 ((p1.mono g2.vv g2.mm).mono g3.vv g3.mm) h3
end

/-! ### built-ins called by name -/
abbrev FN := List Pv → Cells → Res Pv
def fCall (m : FN) (t : FA) : FE := fun sl cs => (t sl cs).bind fun vs cs1 => m vs cs1
def OkC (K : PySem.W.Frag) (mg : Str → Option Value) (m : FN) (r : List V → Hp → VK → Prop) : Prop := ∀ (E : XK) ps cs vs U H μ Q, Rel0 K mg cs μ U H → RepVs K mg U μ ps vs → Out K mg (RepV K mg) E U H μ (m ps cs) Q → r vs H Q
section
variable {X : Cx} {W : WX} {t : FA} {x : Str} {p pos : Pos} {e : Expr} {es : List Expr} {id T : String} {r : List V → Hp → VK → Prop} {m : FN}
theorem rd_cb (hr : OkC X.K X.mg m r) (σ : L2.St) (H : Hp) (Q : VK) (q : rdE X.K X.mg W (fCall m t) σ H Q) : tCB r (rdA X.K X.mg W t) σ H Q := by
  obtain ⟨sl, cs, μ, U, r0, rs, q⟩ := q
  exact ⟨sl, cs, μ, U, r0, rs, Out.seq q fun x cs1 w U1 H1 μ1 _ g1 r1 p1 h1 => hr _ _ _ _ _ _ _ _ r1 p1 h1⟩
theorem b_callB (hc : CallR X (.builtin id) r) (hr : OkC X.K X.mg m r) (hm : X.mg x = none) (hv : bootBuiltins x = some (.builtin id)) (ha : PA X (e :: es) (rdA X.K X.mg W t)) (hg : Gl X x := by rfl) (hn : x ≠ "__name__" := by decide) (hdb : (x == ("__debug__" : Str)) = false := by decide)
    (he : starEach (e :: es) X.env = (false, eval e X.env) :: starEach es X.env := by rfl) (hpl : (backTo pos (starEach es X.env)).any (·.1) = false := by rfl) : PE X (.Call (.Name x p) (e :: es) [] pos) (rdE X.K X.mg W (fCall m t)) :=
  PE.le (pe_callB hc hg hm hv ha hn hdb he hpl) (rd_cb hr)
theorem b_callTy (hc : CallR X (.type T) r) (hr : OkC X.K X.mg m r) (hm : X.mg x = none) (hv : bootBuiltins x = some (.type T)) (ha : PA X (e :: es) (rdA X.K X.mg W t)) (hg : Gl X x := by rfl) (hn : x ≠ "__name__" := by decide) (hdb : (x == ("__debug__" : Str)) = false := by decide)
    (he : starEach (e :: es) X.env = (false, eval e X.env) :: starEach es X.env := by rfl) (hpl : (backTo pos (starEach es X.env)).any (·.1) = false := by rfl) : PE X (.Call (.Name x p) (e :: es) [] pos) (rdE X.K X.mg W (fCall m t)) :=
  PE.le (pe_callTy hc hg hm hv ha hn hdb he hpl) (rd_cb hr)
/-- a built-in type's or a module's own name as a value -/
theorem b_ty {n : String} (hm : X.mg x = none) (hv : bootBuiltins x = some (.type n)) (hg : Gl X x := by rfl) (hn : x ≠ "__name__" := by decide) (hd : (x == ("__debug__" : Str)) = false := by decide) : PE X (.Name x pos) (rdE X.K X.mg W (fCon (.ty n))) :=
  PE.le (pe_bltn hg hm hv (show RelV (.ty n) _ from rfl) hn hd) fun σ H Q h => rd_con (fun _ _ => .ty n) σ H Q h
end
def mLen : FN := fun vs cs => match vs with
  | [.str z] => guard_ (fits z.length) (.ok (.int z.length) cs)
  | [.tup xs] => .ok (.int xs.length) cs
  | [x] => match asL cs x with
    | some xs => .ok (.int xs.length) cs
    | none => .bad
  | _ => .bad
def rLen (K : PySem.W.Frag) : List V → Hp → VK → Prop := fun xs H Q => ∃ x n, xs = [x] ∧ LenV K x H n ∧ Q (.int n) H
theorem ok_len {K : PySem.W.Frag} {mg : Str → Option Value} : OkC K mg mLen (rLen K) := by
  intro E ps cs vs U H μ Q r hx h
  unfold mLen at h
  split at h
  · cases hx with
    | cons h1 h2 =>
      cases h2; cases h1
      obtain ⟨hz, h⟩ := out_guard h
      exact ⟨_, _, rfl, ⟨fits.ok hz, rfl⟩, out_val r (.int _) h⟩
  · cases hx with
    | cons h1 h2 =>
      cases h2
      obtain ⟨a, ws, rfl, s, q⟩ := asT_ok r h1 rfl
      exact ⟨_, _, rfl, .inr ⟨ws, s, q.length⟩, out_val r (.int _) h⟩
  · cases hx with
    | cons h1 h2 =>
      cases h2
      split at h
      · rename_i xs e
        obtain ⟨a, ws, rfl, s, q⟩ := asL_ok r h1 e
        exact ⟨_, _, rfl, .inl ⟨ws, s, q.length⟩, out_val r (.int _) h⟩
      · exact h.elim
  · exact h.elim
def mAbs : FN := fun vs cs => match vs with
  | [.int i] => .ok (.int (if i < 0 then -i else i)) cs
  | _ => .bad
theorem ok_abs {K : PySem.W.Frag} {mg : Str → Option Value} : OkC K mg mAbs (fun xs H Q => ∃ i, xs = [.int i] ∧ Q (.int (if i < 0 then -i else i)) H) := by
  intro E ps cs vs U H μ Q r hx h
  unfold mAbs at h
  split at h
  · cases hx with
    | cons h1 h2 =>
      cases h2; cases h1
      exact ⟨_, rfl, out_val r (.int _) h⟩
  · exact h.elim
def mInt : FN := fun vs cs => match vs with
  | [.int i] => .ok (.int i) cs
  | [.bl k] => .ok (.int (if k then 1 else 0)) cs
  | _ => .bad
theorem ok_int {K : PySem.W.Frag} {mg : Str → Option Value} : OkC K mg mInt (fun xs H Q => (∃ i, xs = [.int i] ∧ Q (.int i) H) ∨ ∃ k, xs = [.bl k] ∧ Q (.int (if k then 1 else 0)) H) := by
  intro E ps cs vs U H μ Q r hx h
  unfold mInt at h
  split at h
  · cases hx with
    | cons h1 h2 =>
      cases h2; cases h1
      exact .inl ⟨_, rfl, out_val r (.int _) h⟩
  · cases hx with
    | cons h1 h2 =>
      cases h2; cases h1
      exact .inr ⟨_, rfl, out_val r (.int _) h⟩
  · exact h.elim
/-- ints in a list -/
def intsOf : List Pv → Option (List Int)
  | [] => some []
  | .int i :: r => (intsOf r).map (i :: ·)
  | _ => none
theorem intsOf_map : ∀ (ns : List Int), intsOf (ns.map Pv.int) = some ns
  | [] => rfl
  | n :: ns => by
    show (intsOf (ns.map Pv.int)).map (n :: ·) = _
    rw [intsOf_map ns]; rfl
theorem intsOf_eq : ∀ {ps : List Pv} {ns : List Int}, intsOf ps = some ns → ps = ns.map Pv.int
  | [], ns, h => by cases h; rfl
  | .int i :: r, ns, h => by
    obtain ⟨ms, h1, h2⟩ := Option.map_eq_some_iff.mp h
    subst h2
    rw [intsOf_eq h1]; rfl
  | .non :: _, _, h => by cases h
  | .bl _ :: _, _, h => by cases h
  | .str _ :: _, _, h => by cases h
  | .tup _ :: _, _, h => by cases h
  | .lst _ :: _, _, h => by cases h
  | .ref _ :: _, _, h => by cases h
  | .obj _ _ :: _, _, h => by cases h
  | .glo _ :: _, _, h => by cases h
  | .ty _ :: _, _, h => by cases h
def mSum : FN := fun vs cs => match vs with
  | [x] => match asL cs x with
    | some xs => match intsOf xs with
      | some ns => .ok (.int ns.sum) cs
      | none => .bad
    | none => .bad
  | _ => .bad
theorem ok_sum {K : PySem.W.Frag} {mg : Str → Option Value} : OkC K mg mSum (rSum K) := by
  intro E ps cs vs U H μ Q r hx h
  unfold mSum at h
  split at h
  · cases hx with
    | cons h1 h2 =>
      cases h2
      split at h
      · rename_i xs e
        split at h
        · rename_i ns en
          obtain ⟨a, ws, rfl, s, q⟩ := asL_ok r h1 e
          rw [intsOf_eq en] at q
          rw [q.ints] at s
          exact ⟨a, ns, rfl, s, out_val r (.int _) h⟩
        · exact h.elim
      · exact h.elim
  · exact h.elim
def mTuple : FN := fun vs cs => match vs with
  | [.tup xs] => .ok (.tup xs) cs
  | [x] => match asL cs x with
    | some xs => .ok (.tup xs) cs
    | none => .bad
  | _ => .bad
theorem ok_tuple {K : PySem.W.Frag} {mg : Str → Option Value} : OkC K mg mTuple (fun xs H Q => ∃ p ys, xs = [.ref p] ∧ ((SqL K H p ys ∧ ∀ l, H l = none → Q (.ref l) (upd H l (.tup ys))) ∨ (SqT K H p ys ∧ Q (.ref p) H))) := by
  intro E ps cs vs U H μ Q r hx h
  unfold mTuple at h
  split at h
  · cases hx with
    | cons h1 h2 =>
      cases h2
      obtain ⟨a, ws, rfl, s, q⟩ := asT_ok r h1 rfl
      exact ⟨a, ws, rfl, .inr ⟨s, out_val r h1 h⟩⟩
  · cases hx with
    | cons h1 h2 =>
      cases h2
      split at h
      · rename_i xs e
        obtain ⟨a, ws, rfl, s, q⟩ := asL_ok r h1 e
        exact ⟨a, ws, rfl, .inl ⟨s, out_tup r q h⟩⟩
      · exact h.elim
  · exact h.elim
/-- list(x): a new list, frozen | a new cell -/
def seqOf (cs : Cells) : Pv → Option (List Pv)
  | .tup xs => some xs
  | x => asL cs x
theorem seqOf_ok {K : PySem.W.Frag} {mg : Str → Option Value} {U H : Hp} {μ : List Addr} {cs : Cells} {p : Pv} {v : V} {xs : List Pv} (r : Rel0 K mg cs μ U H) (h : RepV K mg U μ p v) (e : seqOf cs p = some xs) : ∃ a ws, v = .ref a ∧ (SqL K H a ws ∨ SqT K H a ws) ∧ RepVs K mg U μ xs ws := by
  unfold seqOf at e
  split at e
  · cases e
    obtain ⟨a, ws, rfl, s, q⟩ := asT_ok r h rfl
    exact ⟨a, ws, rfl, .inr s, q⟩
  · obtain ⟨a, ws, rfl, s, q⟩ := asL_ok r h e
    exact ⟨a, ws, rfl, .inl s, q⟩
def mList : FN := fun vs cs => match vs with
  | [x] => match seqOf cs x with
    | some xs => .ok (.lst xs) cs
    | none => .bad
  | _ => .bad
def mListC : FN := fun vs cs => match vs with
  | [x] => match seqOf cs x with
    | some xs => .ok (.ref cs.length) (cs ++ [.lst xs])
    | none => .bad
  | _ => .bad
def rListOf (K : PySem.W.Frag) : List V → Hp → VK → Prop := fun xs H Q => ∃ p ys, xs = [.ref p] ∧ (SqL K H p ys ∨ SqT K H p ys) ∧ ∀ l, H l = none → Q (.ref l) (upd H l (.lst ys))
theorem ok_list {K : PySem.W.Frag} {mg : Str → Option Value} : OkC K mg mList (rListOf K) := by
  intro E ps cs vs U H μ Q r hx h
  unfold mList at h
  split at h
  · cases hx with
    | cons h1 h2 =>
      cases h2
      split at h
      · rename_i xs e
        obtain ⟨a, ws, rfl, s, q⟩ := seqOf_ok r h1 e
        exact ⟨a, ws, rfl, s, out_lst r q h⟩
      · exact h.elim
  · exact h.elim
theorem ok_listC {K : PySem.W.Frag} {mg : Str → Option Value} : OkC K mg mListC (rListOf K) := by
  intro E ps cs vs U H μ Q r hx h
  unfold mListC at h
  split at h
  · cases hx with
    | cons h1 h2 =>
      cases h2
      split at h
      · rename_i xs e
        obtain ⟨a, ws, rfl, s, q⟩ := seqOf_ok r h1 e
        exact ⟨a, ws, rfl, s, out_cell r q h⟩
      · exact h.elim
  · exact h.elim
/-- isinstance of plain data, a built-in class -/
def pyTy (cs : Cells) : Pv → Option String
  | .non => some "NoneType" | .bl _ => some "bool" | .int _ => some "int" | .str _ => some "str" | .tup _ => some "tuple"
  | x => match asL cs x with
    | some _ => some "list"
    | none => none
def mIsB : FN := fun vs cs => match vs with
  | [x, .ty n] => match pyTy cs x with
    | some t => match kitB t n with
      | some b => .ok (.bl b) cs
      | none => .bad
    | none => .bad
  | _ => .bad
theorem tyX_L {K : PySem.W.Frag} {H : Hp} {a : Addr} {ws : List V} (s : SqL K H a ws) : TyX K H (.ref a) (.type "list") := by
  rcases s with (s | ⟨o, s⟩) | ⟨o, its, n, h1, h2, _⟩
  · exact .base (.lst s)
  · exact .base (.frz s)
  · exact .kList h1 h2
theorem tyX_T {K : PySem.W.Frag} {H : Hp} {a : Addr} {ws : List V} (s : SqT K H a ws) : TyX K H (.ref a) (.type "tuple") := by
  rcases s with (s | ⟨o, s⟩) | ⟨o, its, n, h1, h2, _⟩
  · exact .base (.tup s)
  · exact .fTuple s
  · exact .kTuple h1 h2
theorem pyTy_ok {K : PySem.W.Frag} {mg : Str → Option Value} {U H : Hp} {μ : List Addr} {cs : Cells} {p : Pv} {v : V} {t : String} (r : Rel0 K mg cs μ U H) (h : RepV K mg U μ p v) (e : pyTy cs p = some t) : TyX K H v (.type t) := by
  unfold pyTy at e
  split at e
  · cases h; cases e; exact .base .non
  · cases h; cases e; exact .base (.bl _)
  · cases h; cases e; exact .base (.int _)
  · cases h; cases e; exact .base (.str _)
  · cases e
    obtain ⟨a, ws, rfl, s, q⟩ := asT_ok r h rfl
    exact tyX_T s
  · split at e
    · rename_i xs ex
      cases e
      obtain ⟨a, ws, rfl, s, q⟩ := asL_ok r h ex
      exact tyX_L s
    · cases e
theorem ok_isB {K : PySem.W.Frag} {mg : Str → Option Value} : OkC K mg mIsB (rIsi K) := by
  intro E ps cs vs U H μ Q r hx h
  unfold mIsB at h
  split at h
  · cases hx with
    | cons h1 h2 =>
      cases h2 with
      | cons h2 h3 =>
        cases h3; cases h2
        split at h
        · rename_i t et
          split at h
          · rename_i b eb
            exact ⟨_, _, _, _, b, rfl, .ty _, pyTy_ok r h1 et, kit_ty eb, out_val r (.bl _) h⟩
          · exact h.elim
        · exact h.elim
  · exact h.elim

/-! ### statements -/
def sRet (f : FE) : FS := fun sl cs => (f sl cs).go sl fun v cs1 => .rt v cs1
def sRetN : FS := fun _ cs => .rt .non cs
def sExpr (f : FE) : FS := fun sl cs => (f sl cs).go sl fun _ cs1 => .nx sl cs1
def sPass : FS := fun sl cs => .nx sl cs
def sBrk : FS := fun sl cs => .bk sl cs
def sCnt : FS := fun sl cs => .ct sl cs
def sSeq (f g : FS) : FS := fun sl cs => (f sl cs).then g
def sIf (c : FT) (f g : FS) : FS := fun sl cs => (c sl cs).go sl fun b cs1 => if b = true then f sl cs1 else g sl cs1
def sAsg (i : Nat) (f : FE) : FS := fun sl cs => (f sl cs).go sl fun v cs1 => .nx (sl.set i (some v)) cs1
section
variable {X : Cx} {W : WX} {f : FE} {s t : FS} {c : FT} {e cc : Expr} {st : Stmt} {sts a b : List Stmt} {pos : Pos}
theorem s_ret (he : PE X e (rdE X.K X.mg W f)) : PS X (.Return (some e) pos) (rdS X.K X.mg W (sRet f)) := PS.le (ps_ret he) fun D σ H q => by
  obtain ⟨sl, cs, μ, U, r0, rs, q⟩ := q
  exact ⟨sl, cs, μ, U, r0, rs, OutS.seq q rs fun x cs1 w U1 H1 μ1 _ g1 r1 p1 h1 => h1 _ _ _ _ Gr.refl r1 p1⟩
theorem s_retN : PS X (.Return none pos) (rdS X.K X.mg W sRetN) := PS.le ps_retN fun D σ H q => by
  obtain ⟨sl, cs, μ, U, r0, rs, q⟩ := q
  exact q _ _ _ _ Gr.refl r0 .non
theorem s_expr (he : PE X e (rdE X.K X.mg W f)) (hs : swapsWith e none pos.line X.env = pure false := by rfl) : PS X (.Expr e pos) (rdS X.K X.mg W (sExpr f)) := PS.le (ps_expr he hs) fun D σ H q => by
  obtain ⟨sl, cs, μ, U, r0, rs, q⟩ := q
  exact ⟨sl, cs, μ, U, r0, rs, OutS.seq q rs fun x cs1 w U1 H1 μ1 _ g1 r1 p1 h1 => h1 _ _ _ _ Gr.refl r1 (rs.mono g1)⟩
theorem s_pass : PS X (.Pass pos) (rdS X.K X.mg W sPass) := PS.le ps_pass fun D σ H q => by
  obtain ⟨sl, cs, μ, U, r0, rs, q⟩ := q
  exact q _ _ _ _ Gr.refl r0 rs
theorem s_brk : PS X (.Break pos) (rdS X.K X.mg W sBrk) := PS.le ps_break fun D σ H q => by
  obtain ⟨sl, cs, μ, U, r0, rs, q⟩ := q
  exact q _ _ _ _ Gr.refl r0 rs
theorem s_cnt : PS X (.Continue pos) (rdS X.K X.mg W sCnt) := PS.le ps_continue fun D σ H q => by
  obtain ⟨sl, cs, μ, U, r0, rs, q⟩ := q
  exact q _ _ _ _ Gr.refl r0 rs
theorem ss_nil : PSs X [] (rdS X.K X.mg W sPass) := PSs.le pss_nil fun D σ H q => by
  obtain ⟨sl, cs, μ, U, r0, rs, q⟩ := q
  exact q _ _ _ _ Gr.refl r0 rs
theorem ss_one (h : PS X st (rdS X.K X.mg W s)) : PSs X [st] (rdS X.K X.mg W s) := pss_one h
theorem ss_cons (h1 : PS X st (rdS X.K X.mg W s)) (h2 : PSs X sts (rdS X.K X.mg W t)) : PSs X (st :: sts) (rdS X.K X.mg W (sSeq s t)) := PSs.le (pss_cons h1 h2) fun D σ H q => by
  obtain ⟨sl, cs, μ, U, r0, rs, q⟩ := q
  exact ⟨sl, cs, μ, U, r0, rs, OutS.then q (fun _ _ z => z) (fun _ _ z => z) (fun _ _ z => z) fun sl1 cs1 σ1 U1 H1 μ1 _ g1 r1 rs1 h1 => ⟨sl1, cs1, μ1, U1, r1, rs1, h1⟩⟩
theorem s_if (hc : PT X cc (rdT X.K X.mg W c)) (ha : PSs X a (rdS X.K X.mg W s)) (hb : PSs X b (rdS X.K X.mg W t)) : PS X (.If cc a b pos) (rdS X.K X.mg W (sIf c s t)) := PS.le (ps_if hc ha hb) fun D σ H q => by
  obtain ⟨sl, cs, μ, U, r0, rs, q⟩ := q
  refine ⟨sl, cs, μ, U, r0, rs, OutS.seq q rs fun x cs1 w U1 H1 μ1 _ g1 r1 p1 h1 => ?_⟩
  subst p1
  cases x with
  | true => rw [if_pos rfl] at h1 ⊢; exact ⟨sl, cs1, μ1, U1, r1, rs.mono g1, h1⟩
  | false => rw [if_neg Bool.false_ne_true] at h1 ⊢; exact ⟨sl, cs1, μ1, U1, r1, rs.mono g1, h1⟩
theorem rd_asg {i : Nat} (D : Ends) (σ : L2.St) (H : Hp) (q : rdS X.K X.mg W (sAsg i f) D σ H) : tAsg (rdE X.K X.mg W f) (gName i) D σ H := by
  obtain ⟨sl, cs, μ, U, r0, rs, q⟩ := q
  exact ⟨sl, cs, μ, U, r0, rs, OutS.seq q rs fun x cs1 w U1 H1 μ1 _ g1 r1 p1 h1 => h1 _ _ _ _ Gr.refl r1 ((rs.mono g1).set p1 i)⟩
theorem s_asg {i : Nat} {x : Str} {pos' : Pos} (hN : X.N.Nodup) (he : PE X e (rdE X.K X.mg W f)) (hi : X.N[i]? = some x := by rfl) (hx : Loc X.env.scope x := by first | exact Or.inl rfl | exact Or.inr rfl) (hs : swapsWith e (some (.Name x pos')) pos.line X.env = pure false := by rfl) (hf : X.fn x = true ∨ X.env.scope.names.lookup x = some .local := by first | exact .inl rfl | exact .inr rfl | assumption) :
    PS X (.Assign [.Name x pos'] e pos) (rdS X.K X.mg W (sAsg i f)) := PS.le (ps_set hN hi hx he hs hf) rd_asg
end

/-! ### o[i] = e, x op= e -/
def putIx (o i v : Pv) (cs : Cells) : Option Cells := match o, i with
  | .ref k, .int j => match cs[k]? with
    | some (.lst xs) => match ixN xs.length j with
      | some m => some (cs.set k (.lst (xs.set m v)))
      | none => none
    | _ => none
  | _, _ => none
def sPutIx (o i f : FE) : FS := fun sl cs => (f sl cs).go sl fun v cs1 => (o sl cs1).go sl fun ov cs2 => (i sl cs2).go sl fun iv cs3 => match putIx ov iv v cs3 with
  | some cs4 => .nx sl cs4
  | none => .bad
def sAug (i : Nat) (o : F2) (f : FE) : FS := fun sl cs => match sl[i]? with
  | some (some x) => (f sl cs).go sl fun y cs1 => (o x y cs1).go sl fun z cs2 => .nx (sl.set i (some z)) cs2
  | _ => .bad
section
variable {X : Cx} {W : WX} {f fo fi : FE} {e o i : Expr} {pos tp : Pos}
theorem s_putIx (he : PE X e (rdE X.K X.mg W f)) (ho : PE X o (rdE X.K X.mg W fo)) (hi : PE X i (rdE X.K X.mg W fi))
    (ha : ∀ v, assign (.Subscript o i tp) X.env v = (do
      let ov ← holding [v] (eval o X.env)
      let iv ← holding [v, ov] (eval i X.env)
      standAt tp
      holding [v, ov, iv] (setItem ov iv v)
      release [v, ov, iv] []) := by intro _; rfl)
    (hs : swapsWithSole [.Subscript o i tp] e pos.line X.env = pure false := by rfl) (hw : swappedStores [.Subscript o i tp] e X.env = pure none := by rfl)
    (h1 : (assignEach [.Subscript o i tp] X.env).map (·.2) = [assign (.Subscript o i tp) X.env] := by rfl) :
    PS X (.Assign [.Subscript o i tp] e pos) (rdS X.K X.mg W (sPutIx fo fi f)) := PS.le (ps_asg he (pg_sub ho hi set_list ha) hs hw h1) fun D σ H q => by
  obtain ⟨sl, cs, μ, U, r0, rs, q⟩ := q
  refine ⟨sl, cs, μ, U, r0, rs, OutS.seq q rs fun x cs1 w U1 H1 μ1 _ g1 r1 p1 h1 => ?_⟩
  refine ⟨sl, cs1, μ1, U1, r1, rs.mono g1, OutS.seq h1 (rs.mono g1) fun ov cs2 wo U2 H2 μ2 _ g2 r2 p2 h2 => ?_⟩
  refine ⟨sl, cs2, μ2, U2, r2, (rs.mono g1).mono g2, OutS.seq h2 ((rs.mono g1).mono g2) fun iv cs3 wi U3 H3 μ3 _ g3 r3 p3 h3 => ?_⟩
  split at h3
  · rename_i cs4 e4
    unfold putIx at e4
    split at e4
    · split at e4
      · rename_i xs hk
        split at e4
        · rename_i m hm
          cases e4
          cases p3
          have p2' := p2.mono g3.vv g3.mm
          cases p2' with
          | ref hμ =>
            obtain ⟨ws, q1, q2⟩ := r3.cel _ _ _ hk hμ
            refine ⟨_, ws, _, m, rfl, rfl, q1, by rw [← q2.length]; exact hm, ?_⟩
            have px := (p1.mono g2.vv g2.mm).mono g3.vv g3.mm
            obtain ⟨r4, g4⟩ := r3.put (c' := .lst (xs.set m x)) (o := .lst (ws.set m w)) hk (fun z => nomatch z) hμ ⟨_, rfl, RepVs.set px m q2⟩
            exact h3 _ _ _ _ g4 r4 (((rs.mono g1).mono g2).mono g3 |>.mono g4)
        · cases e4
      · cases e4
    · cases e4
  · exact h3.elim
theorem s_aug {i : Nat} {x : Str} {op : Operator} {ti : TIp} {oo : F2} {pos' : Pos} (hN : X.N.Nodup) (ho : PIp X op ti) (hr : Ok2 X.K X.mg oo ti) (he : PE X e (rdE X.K X.mg W f)) (hi : X.N[i]? = some x := by rfl) (hx : Loc X.env.scope x := by first | exact Or.inl rfl | exact Or.inr rfl) (hf : X.fn x = true ∨ X.env.scope.names.lookup x = some .local := by first | exact .inl rfl | exact .inr rfl | assumption) :
    PS X (.AugAssign (.Name x pos') op e pos) (rdS X.K X.mg W (sAug i oo f)) := PS.le (ps_aug hN hi hx he ho hf) fun D σ H q => by
  obtain ⟨sl, cs, μ, U, r0, rs, q⟩ := q
  unfold sAug at q
  split at q
  · rename_i y ey
    obtain ⟨w0, h1, h2⟩ := rs.2 i y ey
    refine ⟨w0, h1, sl, cs, μ, U, r0, rs, OutS.seq q rs fun x cs1 w U1 H1 μ1 _ g1 r1 p1 h1 => ?_⟩
    exact hr _ y x cs1 w0 w U1 H1 μ1 _ r1 (h2.mono g1.vv g1.mm) p1 (OutS.seq h1 (rs.mono g1) fun z cs2 wz U2 H2 μ2 _ g2 r2 p2 h3 => h3 _ _ _ _ Gr.refl r2 (((rs.mono g1).mono g2).set p2 i))
  · exact q.elim
end
def oAddI : F2 := fun x y cs => match x, y with
  | .int i, .int j => .ok (.int (i + j)) cs
  | _, _ => .bad
theorem ok_addI {K : PySem.W.Frag} {mg : Str → Option Value} : Ok2 K mg oAddI (ipI fun i j => i + j) := by
  intro E x y cs v w U H μ Q r hx hy h
  unfold oAddI at h
  split at h
  · cases hx; cases hy
    exact ⟨_, _, rfl, rfl, out_val r (.int _) h⟩
  · exact h.elim
end AL

set_option Elab.async false
set_option linter.all false
set_option autoImplicit false
set_option maxRecDepth 100000
set_option maxHeartbeats 4000000
/-! Own layer, part 5: targets, loops, comprehensions. -/
namespace AL
open PySem PySem.Spec PyProof.Rows L2

/-! ### targets -/
abbrev FG := Pv → Sl → Cells → Option Sl
abbrev FGs := List Pv → Sl → Cells → Option Sl
def gN (i : Nat) : FG := fun v sl _ => some (sl.set i (some v))
def gsNil : FGs := fun vs sl _ => match vs with
  | [] => some sl
  | _ => none
def gsCons (g : FG) (r : FGs) : FGs := fun vs sl cs => match vs with
  | v :: vs => (g v sl cs).bind fun sl' => r vs sl' cs
  | [] => none
def gT (n : Nat) (r : FGs) : FG := fun v sl cs => match asT v with
  | some xs => if xs.length = n then r xs sl cs else none
  | none => none
theorem wipe_get (σ : L2.St) (i : Nat) : ∀ vs : List Nat, (wipe σ vs)[i]? = if i ∈ vs ∧ i < σ.length then some none else σ[i]?
  | [] => by simp [wipe]
  | v :: vs => by
    show ((wipe σ vs).set v none)[i]? = _
    by_cases hv : v = i
    · subst hv
      by_cases hl : v < σ.length
      · rw [List.getElem?_set_self (by rw [wipe_length]; exact hl), if_pos ⟨List.mem_cons_self, hl⟩]
      · rw [if_neg (fun z => hl z.2), List.getElem?_eq_none (by rw [List.length_set, wipe_length]; omega), List.getElem?_eq_none (by omega)]
    · rw [List.getElem?_set_ne hv, wipe_get σ i vs]
      by_cases hm : i ∈ vs ∧ i < σ.length
      · rw [if_pos hm, if_pos ⟨List.mem_cons_of_mem _ hm.1, hm.2⟩]
      · rw [if_neg hm, if_neg]
        intro z
        rcases List.mem_cons.mp z.1 with e | e
        · exact hv e.symm
        · exact hm ⟨e, z.2⟩
theorem wipe_set {σ : L2.St} {i : Nat} {x : Option V} {vs : List Nat} (h : i ∈ vs) : wipe (σ.set i x) vs = wipe σ vs := by
  refine List.ext_getElem? fun j => ?_
  rw [wipe_get, wipe_get, List.length_set]
  by_cases hj : j ∈ vs ∧ j < σ.length
  · rw [if_pos hj, if_pos hj]
  · rw [if_neg hj, if_neg hj]
    by_cases e : i = j
    · subst e
      have hl : ¬ i < σ.length := fun z => hj ⟨h, z⟩
      rw [List.getElem?_eq_none (by rw [List.length_set]; omega), List.getElem?_eq_none (by omega)]
    · rw [List.getElem?_set_ne e]
theorem wipe_wipe (σ : L2.St) (vs : List Nat) : wipe (wipe σ vs) vs = wipe σ vs := by
  refine List.ext_getElem? fun j => ?_
  rw [wipe_get, wipe_get, wipe_length]
  by_cases hj : j ∈ vs ∧ j < σ.length
  · rw [if_pos hj, if_pos hj]
  · rw [if_neg hj]
def wipeS (sl : Sl) : List Nat → Sl
  | [] => sl
  | v :: vs => (wipeS sl vs).set v none
theorem RelS.wipe {K : PySem.W.Frag} {mg : Str → Option Value} {U : Hp} {μ : List Addr} {sl : Sl} {σ : L2.St} (r : RelS K mg U μ sl σ) : ∀ vs : List Nat, RelS K mg U μ (wipeS sl vs) (L2.wipe σ vs)
  | [] => r
  | v :: vs => (RelS.wipe r vs).setNone v
section
variable (K : PySem.W.Frag) (mg : Str → Option Value)
def rdG (vs : List Nat) (g : FG) : TG := fun v σ H Q => ∃ p sl cs μ U sl', Rel0 K mg cs μ U H ∧ RelS K mg U μ sl σ ∧ RepV K mg U μ p v ∧ g p sl cs = some sl' ∧ ∀ σ', RelS K mg U μ sl' σ' → wipe σ' vs = wipe σ vs → Q σ' H
def rdGs (vs : List Nat) (g : FGs) : TGs := fun ws σ H Q => ∃ ps sl cs μ U sl', Rel0 K mg cs μ U H ∧ RelS K mg U μ sl σ ∧ RepVs K mg U μ ps ws ∧ g ps sl cs = some sl' ∧ ∀ σ', RelS K mg U μ sl' σ' → wipe σ' vs = wipe σ vs → Q σ' H
end
theorem PG.le {X : Cx} {e : Expr} {t t' : TG} (h : PG X e t) (l : ∀ v σ H Q, t' v σ H Q → t v σ H Q) : PG X e t' := ⟨fun pins s σ H v u Q I r q => h.run pins s σ H v u Q I r (l v σ H Q q)⟩
theorem PGs.le {X : Cx} {e : List Expr} {t t' : TGs} (h : PGs X e t) (l : ∀ v σ H Q, t' v σ H Q → t v σ H Q) : PGs X e t' := ⟨fun pins s σ H v u Q I r q => h.run pins s σ H v u Q I r (l v σ H Q q)⟩
section
variable {X : Cx} {vs : List Nat} {g : FG} {gs : FGs} {e : Expr} {es : List Expr} {pos : Pos}
theorem g_name {i : Nat} {x : Str} (hN : X.N.Nodup) (hv : i ∈ vs := by decide) (hi : X.N[i]? = some x := by rfl) (hx : Loc X.env.scope x := by first | exact Or.inl rfl | exact Or.inr rfl) (hf : X.fn x = true ∨ X.env.scope.names.lookup x = some .local := by first | exact .inl rfl | exact .inr rfl | assumption) : PG X (.Name x pos) (rdG X.K X.mg vs (gN i)) :=
  PG.le (pg_name hN hi hx hf) fun v σ H Q q => by
    obtain ⟨p, sl, cs, μ, U, sl', r0, rs, rp, e, q⟩ := q
    cases e
    exact q _ (rs.set rp i) (wipe_set hv)
theorem gs_nil : PGs X [] (rdGs X.K X.mg vs gsNil) := PGs.le pgs_nil fun v σ H Q q => by
  obtain ⟨p, sl, cs, μ, U, sl', r0, rs, rp, e, q⟩ := q
  unfold gsNil at e
  split at e
  · cases e; cases rp
    exact ⟨rfl, q _ rs rfl⟩
  · cases e
theorem gs_cons (h1 : PG X e (rdG X.K X.mg vs g)) (h2 : PGs X es (rdGs X.K X.mg vs gs)) (hs : (assignEach (e :: es) X.env).map (·.2) = assign e X.env :: (assignEach es X.env).map (·.2) := by rfl) : PGs X (e :: es) (rdGs X.K X.mg vs (gsCons g gs)) :=
  PGs.le (pgs_cons h1 h2 hs) fun v σ H Q q => by
    obtain ⟨p, sl, cs, μ, U, sl', r0, rs, rp, e, q⟩ := q
    unfold gsCons at e
    split at e
    · obtain ⟨sl1, e1, e2⟩ := Option.bind_eq_some_iff.mp e
      cases rp with
      | cons r1 r2 => exact ⟨_, _, rfl, _, sl, cs, μ, U, sl1, r0, rs, r1, e1, fun σ1 rs1 w1 => ⟨_, sl1, cs, μ, U, sl', r0, rs1, r2, e2, fun σ2 rs2 w2 => q σ2 rs2 (w2.trans w1)⟩⟩
    · cases e
theorem g_tup {k : Nat} {n : Nat} (hc : X.calm = true) (h : PGs X es (rdGs X.K X.mg vs gs)) (hn : (assignEach es X.env).length = n := by rfl) (hst : (assignEach es X.env).findIdx? (·.1) = none := by rfl) : PG X (.Tuple es k pos) (rdG X.K X.mg vs (gT n gs)) :=
  PG.le (pg_tup hc h hn hst) fun v σ H Q q => by
    obtain ⟨p, sl, cs, μ, U, sl', r0, rs, rp, e, q⟩ := q
    unfold gT at e
    split at e
    · rename_i xs ex
      split at e
      · rename_i el
        obtain ⟨a, ws, rfl, s, rq⟩ := asT_ok r0 rp ex
        exact ⟨a, ws, rfl, s, by rw [← rq.length]; exact el, xs, sl, cs, μ, U, sl', r0, rs, rq, e, q⟩
      · cases e
    · cases e
end
/-- target = e, a target of several names -/
def sAsgG (g : FG) (f : FE) : FS := fun sl cs => (f sl cs).go sl fun v cs1 => match g v sl cs1 with
  | some sl' => .nx sl' cs1
  | none => .bad
section
variable {X : Cx} {W : WX} {vs : List Nat} {g : FG} {f : FE} {e tg : Expr} {pos : Pos}
theorem s_asgG (he : PE X e (rdE X.K X.mg W f)) (hg : PG X tg (rdG X.K X.mg vs g)) (hs : swapsWithSole [tg] e pos.line X.env = pure false := by rfl) (hw : swappedStores [tg] e X.env = pure none := by rfl)
    (h1 : (assignEach [tg] X.env).map (·.2) = [assign tg X.env] := by rfl) : PS X (.Assign [tg] e pos) (rdS X.K X.mg W (sAsgG g f)) := PS.le (ps_asg he hg hs hw h1) fun D σ H q => by
  obtain ⟨sl, cs, μ, U, r0, rs, q⟩ := q
  refine ⟨sl, cs, μ, U, r0, rs, OutS.seq q rs fun x cs1 w U1 H1 μ1 _ g1 r1 p1 h1 => ?_⟩
  split at h1
  · rename_i sl' e'
    exact ⟨x, sl, cs1, μ1, U1, sl', r1, rs.mono g1, p1, e', fun σ' rs' _ => h1 _ _ _ _ Gr.refl r1 rs'⟩
  · exact h1.elim
end

/-! ### what is walked -/
inductive Src where
  | fz (ps : List Pv) | lv (it : Nat → Cells → Option (Option Pv))
def Src.it : Src → Nat → Cells → Option (Option Pv)
  | .fz ps, i, _ => if i ≤ ps.length then some ps[i]? else none
  | .lv it, i, cs => it i cs
abbrev FI := Sl → Cells → Res Src
def ItOk (K : PySem.W.Frag) (mg : Str → Option Value) (it : Nat → Cells → Option (Option Pv)) (J : It) (U0 : Hp) (μ0 : List Addr) : Prop :=
  ∀ U H μ cs i, Ex U0 U → μ0 <+: μ → Rel0 K mg cs μ U H → match it i cs with
    | some (some p) => J.go i H ∧ ∀ x H', J.yld i H x H' → ∃ U', Gr U H μ U' H' μ ∧ Rel0 K mg cs μ U' H' ∧ RepV K mg U' μ p x
    | some none => J.stop i H
    | none => True
def rdI (K : PySem.W.Frag) (mg : Str → Option Value) (W : WX) (f : FI) : TI := fun σ H R => ∃ sl cs μ U, Rel0 K mg cs μ U H ∧ RelS K mg U μ sl σ ∧ Out K mg (fun U μ s J => ItOk K mg s.it J U μ) (fun c d H => W c d σ H) U H μ (f sl cs) R
theorem PI.le {X : Cx} {tg e : Expr} {t t' : TI} (h : PI X tg e t) (l : ∀ σ H R, t' σ H R → t σ H R) : PI X tg e t' := ⟨fun pins s σ H R I q => h.run pins s σ H R I (l σ H R q)⟩
theorem PI.or {X : Cx} {tg e : Expr} {t t' : TI} (h : PI X tg e t) (h' : PI X tg e t') : PI X tg e (fun σ H R => t σ H R ∨ t' σ H R) := ⟨fun pins s σ H R I q => q.elim (h.run pins s σ H R I) (h'.run pins s σ H R I)⟩
/-- a list, a tuple -/
def cellIt (k : Nat) : Nat → Cells → Option (Option Pv) := fun i cs => match cs[k]? with
  | some (.lst xs) => some xs[i]?
  | _ => none
def srcOf (cs : Cells) : Pv → Option Src
  | .tup xs => some (.fz xs)
  | .lst xs => some (.fz xs)
  | .ref k => match cs[k]? with
    | some (.lst _) => some (.lv (cellIt k))
    | _ => none
  | _ => none
def iSeq (f : FE) : FI := fun sl cs => (f sl cs).bind fun v cs1 => match srcOf cs1 v with
  | some s => .ok s cs1
  | none => .bad
def rngOk (j : Int) : Bool := Nat.ble j.natAbs 16777216
theorem rngOk.ok {j : Int} (h : rngOk j = true) : -(2 ^ 62) ≤ j ∧ j < 2 ^ 62 := by
  have h1 := Nat.le_of_ble_eq_true h
  omega
theorem rngOk.of {j : Int} (h : 0 ≤ j) (h2 : j ≤ 16777216) : rngOk j = true := Nat.ble_eq_true_of_le (by omega)
def iRange1 (f : FE) : FI := fun sl cs => (f sl cs).bind fun v cs1 => match v with
  | .int j => guard_ (rngOk j) (.ok (.fz ((List.range j.toNat).map fun (k : Nat) => .int (k : Int))) cs1)
  | _ => .bad
def iRange2 (f g : FE) : FI := fun sl cs => (f sl cs).bind fun u cs1 => (g sl cs1).bind fun v cs2 => match u, v with
  | .int i, .int j => guard_ (rngOk i && rngOk j) (.ok (.fz ((List.range (j - i).toNat).map fun (k : Nat) => .int (i + (k : Int)))) cs2)
  | _, _ => .bad
section
variable {K : PySem.W.Frag} {mg : Str → Option Value}
theorem it_list {U0 : Hp} {μ0 : List Addr} {a : Addr} {ps : List Pv} {ws : List V} (s : SqL K U0 a ws) (q : RepVs K mg U0 μ0 ps ws) : ItOk K mg (Src.fz ps).it (Itl K a) U0 μ0 := by
  intro U H μ cs i e m r
  show match (if i ≤ ps.length then some ps[i]? else none) with | some (some p) => _ | some none => _ | none => _
  by_cases hle : i ≤ ps.length
  case neg => rw [if_neg hle]; trivial
  rw [if_pos hle]
  have sH := r.vh.l (e.l s)
  cases hp : ps[i]? with
  | some p =>
    obtain ⟨v, h1, h2⟩ := q.at hp
    refine ⟨⟨ws, v, sH, h1⟩, fun x H' y => ?_⟩
    obtain ⟨rfl, y⟩ := y
    have := y ws sH
    rw [h1] at this; cases this
    exact ⟨U, Gr.refl, r, h2.mono e m⟩
  | none => exact ⟨ws, sH, by rw [← q.length]; exact List.getElem?_eq_none_iff.mp hp⟩
theorem it_tup {U0 : Hp} {μ0 : List Addr} {a : Addr} {ps : List Pv} {ws : List V} (s : SqT K U0 a ws) (q : RepVs K mg U0 μ0 ps ws) : ItOk K mg (Src.fz ps).it (Itt K a) U0 μ0 := by
  intro U H μ cs i e m r
  show match (if i ≤ ps.length then some ps[i]? else none) with | some (some p) => _ | some none => _ | none => _
  by_cases hle : i ≤ ps.length
  case neg => rw [if_neg hle]; trivial
  rw [if_pos hle]
  have sH := r.vh.t (e.t s)
  cases hp : ps[i]? with
  | some p =>
    obtain ⟨v, h1, h2⟩ := q.at hp
    refine ⟨⟨ws, v, sH, h1⟩, fun x H' y => ?_⟩
    obtain ⟨rfl, y⟩ := y
    have := y ws sH
    rw [h1] at this; cases this
    exact ⟨U, Gr.refl, r, h2.mono e m⟩
  | none => exact ⟨ws, sH, by rw [← q.length]; exact List.getElem?_eq_none_iff.mp hp⟩
theorem it_cell {U0 : Hp} {μ0 : List Addr} {a : Addr} {k : Nat} (h : μ0[k]? = some a) : ItOk K mg (Src.lv (cellIt k)).it (Itl K a) U0 μ0 := by
  intro U H μ cs i e m r
  show match cellIt k i cs with | some (some p) => _ | some none => _ | none => _
  unfold cellIt
  split
  · rename_i p hp
    split at hp
    · rename_i xs hk
      obtain ⟨ws, h1, q⟩ := r.cel k _ a hk (pre_get m h)
      obtain ⟨v, h2, h3⟩ := q.at (Option.some.inj hp)
      refine ⟨⟨ws, v, .of h1, h2⟩, fun x H' y => ?_⟩
      obtain ⟨rfl, y⟩ := y
      have := y ws (.of h1)
      rw [h2] at this; cases this
      exact ⟨U, Gr.refl, r, h3⟩
    · cases hp
  · rename_i hp
    split at hp
    · rename_i xs hk
      obtain ⟨ws, h1, q⟩ := r.cel k _ a hk (pre_get m h)
      exact ⟨ws, .of h1, by rw [← q.length]; exact List.getElem?_eq_none_iff.mp (Option.some.inj hp)⟩
    · cases hp
  · trivial
theorem it_range {U0 : Hp} {μ0 : List Addr} {lo : Int} {n : Nat} : ItOk K mg (Src.fz ((List.range n).map fun (k : Nat) => .int (lo + (k : Int)))).it (Itr lo n) U0 μ0 := by
  intro U H μ cs i e m r
  show match (if i ≤ ((List.range n).map fun (k : Nat) => Pv.int (lo + (k : Int))).length then some ((List.range n).map fun (k : Nat) => Pv.int (lo + (k : Int)))[i]? else none) with | some (some p) => _ | some none => _ | none => _
  by_cases hle : i ≤ ((List.range n).map fun (k : Nat) => Pv.int (lo + (k : Int))).length
  case neg => rw [if_neg hle]; trivial
  rw [if_pos hle]
  by_cases hi : i < n
  · rw [List.getElem?_map, List.getElem?_range hi]
    refine ⟨hi, fun x H' y => ?_⟩
    obtain ⟨rfl, rfl⟩ := y
    exact ⟨U, Gr.refl, r, .int _⟩
  · rw [List.getElem?_eq_none (by rw [List.length_map, List.length_range]; omega)]
    exact Nat.not_lt.mp hi
theorem it_range0 {U0 : Hp} {μ0 : List Addr} (n : Nat) : ItOk K mg (Src.fz ((List.range n).map fun (k : Nat) => .int (k : Int))).it (Itr 0 n) U0 μ0 := by
  have := it_range (K := K) (mg := mg) (U0 := U0) (μ0 := μ0) (lo := 0) (n := n)
  simp only [Int.zero_add] at this
  exact this
end
section
variable {X : Cx} {W : WX} {f g : FE} {e e2 tg : Expr} {p pos : Pos}
theorem i_seq (he : PE X e (rdE X.K X.mg W f)) : PI X tg e (rdI X.K X.mg W (iSeq f)) := PI.le (PI.or (pi_list he) (pi_tup he)) fun σ H R q => by
  obtain ⟨sl, cs, μ, U, r0, rs, q⟩ := q
  unfold iSeq at q
  cases hf : f sl cs with
  | bad => rw [hf] at q; exact q.elim
  | exn c fs cs1 =>
    rw [hf] at q
    refine .inl ⟨sl, cs, μ, U, r0, rs, ?_⟩
    rw [hf]
    exact q
  | ok v cs1 =>
    rw [hf] at q
    have q : Out X.K X.mg (fun U μ (s : Src) J => ItOk X.K X.mg s.it J U μ) (fun c d H => W c d σ H) U H μ (match srcOf cs1 v with | some s => .ok s cs1 | none => .bad) R := q
    split at q
    · rename_i s es
      unfold srcOf at es
      split at es
      · cases es
        refine .inr ⟨sl, cs, μ, U, r0, rs, ?_⟩
        rw [hf]
        intro w U1 H1 μ1 g1 r1 p1
        cases p1 with
        | tup s rp => exact ⟨_, rfl, ⟨_, r1.vh.t s⟩, q _ _ _ _ g1 r1 (it_tup s rp)⟩
      · cases es
        refine .inl ⟨sl, cs, μ, U, r0, rs, ?_⟩
        rw [hf]
        intro w U1 H1 μ1 g1 r1 p1
        cases p1 with
        | lst s rp => exact ⟨_, rfl, ⟨_, r1.vh.l s⟩, q _ _ _ _ g1 r1 (it_list s rp)⟩
      · split at es
        · rename_i k xs hk
          cases es
          refine .inl ⟨sl, cs, μ, U, r0, rs, ?_⟩
          rw [hf]
          intro w U1 H1 μ1 g1 r1 p1
          cases p1 with
          | ref hm =>
            obtain ⟨ws, h1, _⟩ := r1.cel _ _ _ hk hm
            exact ⟨_, rfl, ⟨_, .of h1⟩, q _ _ _ _ g1 r1 (it_cell hm)⟩
        · cases es
      · cases es
    · exact q.elim
theorem i_range1 (hm : X.mg "range" = none) (ha : PE X e (rdE X.K X.mg W f)) (hg : Gl X "range" := by rfl) (hs : starEach [e] X.env = [(false, eval e X.env)] := by rfl) (hs1 : starEach [e] X.env = (false, eval e X.env) :: starEach [] X.env := by rfl) : PI X tg (.Call (.Name "range" p) [e] [] pos) (rdI X.K X.mg W (iRange1 f)) :=
  PI.le (pi_range1 hg hm (a_cons ha a_nil hs1) hs) fun σ H R q => by
    obtain ⟨sl, cs, μ, U, r0, rs, q⟩ := q
    refine ⟨sl, cs, μ, U, r0, rs, ?_⟩
    unfold iRange1 at q
    show Out _ _ _ _ _ _ _ ((f sl cs).bind fun v cs1 => (Res.ok [] cs1).bind fun vs cs2 => .ok (v :: vs) cs2) _
    cases hf : f sl cs with
    | bad => rw [hf] at q; exact q.elim
    | exn c fs cs1 => rw [hf] at q; exact q
    | ok v cs1 =>
      rw [hf] at q
      intro w U1 H1 μ1 g1 r1 p1
      have q := Out.later g1 q
      simp only [Res.bind_ok] at q
      cases p1 with
      | cons h1 h2 =>
        cases h2
        split at q
        · cases h1
          obtain ⟨hz, q⟩ := out_guard q
          have hz := rngOk.ok hz
          refine ⟨_, rfl, hz.1, hz.2, q _ _ _ _ Gr.refl r1 (it_range0 _)⟩
        · exact q.elim
theorem i_range2 (hm : X.mg "range" = none) (ha : PE X e (rdE X.K X.mg W f)) (hb : PE X e2 (rdE X.K X.mg W g)) (hg : Gl X "range" := by rfl) (hs : starEach [e, e2] X.env = [(false, eval e X.env), (false, eval e2 X.env)] := by rfl) (hs2 : starEach [e2] X.env = [(false, eval e2 X.env)] := by rfl)
    (hs3 : starEach [e, e2] X.env = (false, eval e X.env) :: starEach [e2] X.env := by rfl) (hs4 : starEach [e2] X.env = (false, eval e2 X.env) :: starEach [] X.env := by rfl) : PI X tg (.Call (.Name "range" p) [e, e2] [] pos) (rdI X.K X.mg W (iRange2 f g)) :=
  PI.le (pi_range2 hg hm (a_cons ha (a_cons hb a_nil hs4) hs3) hs hs2) fun σ H R q => by
    obtain ⟨sl, cs, μ, U, r0, rs, q⟩ := q
    refine ⟨sl, cs, μ, U, r0, rs, ?_⟩
    unfold iRange2 at q
    show Out _ _ _ _ _ _ _ ((f sl cs).bind fun v cs1 => ((g sl cs1).bind fun v2 cs2 => (Res.ok [] cs2).bind fun vs cs3 => .ok (v2 :: vs) cs3).bind fun vs cs2 => .ok (v :: vs) cs2) _
    cases hf : f sl cs with
    | bad => rw [hf] at q; exact q.elim
    | exn c fs cs1 => rw [hf] at q; exact q
    | ok v cs1 =>
      rw [hf] at q
      simp only [Res.bind_ok] at q ⊢
      cases hg2 : g sl cs1 with
      | bad => rw [hg2] at q; exact q.elim
      | exn c fs cs1 => rw [hg2] at q; exact q
      | ok v2 cs2 =>
        rw [hg2] at q
        simp only [Res.bind_ok] at q ⊢
        intro w U1 H1 μ1 g1 r1 p1
        have q := Out.later g1 q
        cases p1 with
        | cons h1 h2 =>
          cases h2 with
          | cons h2 h3 =>
            cases h3
            split at q
            · cases h1; cases h2
              obtain ⟨hz, q⟩ := out_guard q
              have hz := Bool.and_eq_true_iff.mp hz
              have hz1 := rngOk.ok hz.1
              have hz2 := rngOk.ok hz.2
              exact ⟨_, _, rfl, ⟨hz1.1, hz1.2, hz2.1, hz2.2⟩, q _ _ _ _ Gr.refl r1 it_range⟩
            · exact q.elim
end

/-! ### for -/
def RS.turn : RS → (Sl → Cells → RS) → RS
  | .nx sl cs, k => k sl cs
  | .ct sl cs, k => k sl cs
  | .bk sl cs, _ => .nx sl cs
  | .rt v cs, _ => .rt v cs
  | .exn c fs sl cs, _ => .exn c fs sl cs
  | .bad, _ => .bad
@[simp] theorem RS.turn_nx (sl : Sl) (cs : Cells) (k : Sl → Cells → RS) : (RS.nx sl cs).turn k = k sl cs := rfl
@[simp] theorem RS.turn_ct (sl : Sl) (cs : Cells) (k : Sl → Cells → RS) : (RS.ct sl cs).turn k = k sl cs := rfl
@[simp] theorem RS.turn_bk (sl : Sl) (cs : Cells) (k : Sl → Cells → RS) : (RS.bk sl cs).turn k = .nx sl cs := rfl
@[simp] theorem RS.turn_rt (v : Pv) (cs : Cells) (k : Sl → Cells → RS) : (RS.rt v cs).turn k = .rt v cs := rfl
@[simp] theorem RS.turn_exn (c : Str) (fs : List (Str × Pv)) (sl : Sl) (cs : Cells) (k : Sl → Cells → RS) : (RS.exn c fs sl cs).turn k = .exn c fs sl cs := rfl
@[simp] theorem RS.turn_bad (k : Sl → Cells → RS) : RS.bad.turn k = .bad := rfl
def gTurn (g : FG) (body : FS) (v : Pv) : FS := fun sl cs => match g v sl cs with
  | some sl' => body sl' cs
  | none => .bad
def forN (it : Nat → Cells → Option (Option Pv)) (body : Pv → FS) : Nat → Nat → Sl → Cells → RS
  | 0, _, _, _ => .bad
  | n + 1, i, sl, cs => match it i cs with
    | some (some v) => (body v sl cs).turn (forN it body n (i + 1))
    | some none => .nx sl cs
    | none => .bad
def forL (body : Pv → FS) : List Pv → Sl → Cells → RS
  | [], sl, cs => .nx sl cs
  | v :: vs, sl, cs => (body v sl cs).turn (forL body vs)
/-- more turns than any run has -/
def FU : Nat := 1099511627776
theorem forN_fz (body : Pv → FS) (ps : List Pv) : ∀ (n i : Nat) (sl : Sl) (cs : Cells), i ≤ ps.length → ps.length < i + n → forN (Src.fz ps).it body n i sl cs = forL body (ps.drop i) sl cs
  | 0, i, sl, cs, h0, h => by omega
  | n + 1, i, sl, cs, h0, h => by
    show (match (if i ≤ ps.length then some ps[i]? else none) with | some (some v) => (body v sl cs).turn (forN (Src.fz ps).it body n (i + 1)) | some none => RS.nx sl cs | none => .bad) = _
    rw [if_pos h0]
    by_cases hi : i < ps.length
    · rw [List.getElem?_eq_getElem hi, List.drop_eq_getElem_cons hi]
      show (body ps[i] sl cs).turn (forN (Src.fz ps).it body n (i + 1)) = (body ps[i] sl cs).turn (forL body (ps.drop (i + 1)))
      congr 1
      funext sl' cs'
      exact forN_fz body ps n (i + 1) sl' cs' (by omega) (by omega)
    · rw [List.getElem?_eq_none (by omega), List.drop_eq_nil_iff.mpr (by omega)]
      rfl
def forS (body : Pv → FS) (s : Src) : FS := match s with
  | .fz ps => forL body ps
  | .lv it => forN it body FU 0
theorem forS_N (body : Pv → FS) (s : Src) : ∃ n, forS body s = forN s.it body n 0 := by
  cases s with
  | fz ps => exact ⟨ps.length + 1, funext fun sl => funext fun cs => by rw [forN_fz body ps _ 0 sl cs (by omega) (by omega)]; rfl⟩
  | lv it => exact ⟨FU, rfl⟩
def sFor (g : FG) (src : FI) (body : FS) : FS := fun sl cs => (src sl cs).go sl fun s cs1 => forS (gTurn g body) s sl cs1
theorem OutS.turn {K : PySem.W.Frag} {mg : Str → Option Value} {U H : Hp} {μ : List Addr} {W : WX} {D : Ends} {N : L2.St → Hp → Prop} {r : RS} {k : Sl → Cells → RS} (h : OutS K mg W D U H μ (r.turn k))
    (c : ∀ sl1 cs1 σ1 U1 H1 μ1, Gr U H μ U1 H1 μ1 → Rel0 K mg cs1 μ1 U1 H1 → RelS K mg U1 μ1 sl1 σ1 → OutS K mg W D U1 H1 μ1 (k sl1 cs1) → N σ1 H1) : OutS K mg W { D with nx := N, ct := N, bk := D.nx } U H μ r := by
  cases r with
  | nx a cs => exact fun σ' U' H' μ' g' r' q => c a cs σ' U' H' μ' g' r' q (OutS.later g' h)
  | ct a cs => exact fun σ' U' H' μ' g' r' q => c a cs σ' U' H' μ' g' r' q (OutS.later g' h)
  | bk a cs => exact h
  | rt a cs => exact h
  | exn c fs sl cs => exact h
  | bad => exact h
section
variable {X : Cx} {W : WX} {vs : List Nat} {g : FG} {src : FI} {body : FS} {c : FT} {tg iter cc : Expr} {sts : List Stmt} {pos : Pos}
theorem s_for (hp : PassesOwn (model X.prog X.w) X.A X.env X.xe) (hc : X.calm = true) (hi : PI X tg iter (rdI X.K X.mg W src)) (hg : PG X tg (rdG X.K X.mg vs g)) (hb : PSs X sts (rdS X.K X.mg W body))
    (hs : ∀ x, foldedSetIterable iter X.env x = pure x := by intro _; rfl) : PS X (.For tg iter sts [] pos) (rdS X.K X.mg W (sFor g src body)) := PS.le (ps_for hp hc hi hg hb hs) fun D σ H q => by
  obtain ⟨sl, cs, μ, U, r0, rs, q⟩ := q
  refine ⟨sl, cs, μ, U, r0, rs, OutS.seq q rs fun s cs1 J U1 H1 μ1 _ g1 r1 hJ h1 => ?_⟩
  obtain ⟨n, en⟩ := forS_N (gTurn g body) s
  rw [en] at h1
  refine ⟨fun i m σ H => ∃ sl cs μ U, Ex U1 U ∧ μ1 <+: μ ∧ Rel0 X.K X.mg cs μ U H ∧ RelS X.K X.mg U μ sl σ ∧ OutS X.K X.mg W D U H μ (forN s.it (gTurn g body) m i sl cs), ⟨n, sl, cs1, μ1, U1, Ex.refl _, List.prefix_refl _, r1, rs.mono g1, h1⟩, ?_⟩
  rintro i m σ2 H2 ⟨sl2, cs2, μ2, U2, ex, mm, r2, rs2, h2⟩
  cases m with
  | zero => exact h2.elim
  | succ m =>
    have hJ2 := hJ U2 H2 μ2 cs2 i ex mm r2
    have h2 : OutS X.K X.mg W D U2 H2 μ2 (match s.it i cs2 with | some (some v) => (gTurn g body v sl2 cs2).turn (forN s.it (gTurn g body) m (i + 1)) | some none => .nx sl2 cs2 | none => .bad) := h2
    cases hv : s.it i cs2 with
    | none => rw [hv] at h2; exact h2.elim
    | some o =>
      rw [hv] at h2 hJ2
      cases o with
      | none => exact .inl ⟨hJ2, h2 _ _ _ _ Gr.refl r2 rs2⟩
      | some v =>
        obtain ⟨go, yl⟩ := hJ2
        refine .inr ⟨go, fun σ H => ∃ sl cs μ U, Ex U1 U ∧ μ1 <+: μ ∧ Rel0 X.K X.mg cs μ U H ∧ RelS X.K X.mg U μ sl σ ∧ OutS X.K X.mg W D U H μ (forN s.it (gTurn g body) m (i + 1) sl cs), fun σ' H' hN => ⟨m, Nat.lt_succ_self _, hN⟩, fun x H' y => ?_⟩
        obtain ⟨U3, g3, r3, p3⟩ := yl x H' y
        have h3 := OutS.later g3 h2
        have h3 : OutS X.K X.mg W D U3 H' μ2 ((match g v sl2 cs2 with | some sl' => body sl' cs2 | none => .bad).turn (forN s.it (gTurn g body) m (i + 1))) := h3
        split at h3
        · rename_i sl' e'
          refine ⟨v, sl2, cs2, μ2, U3, sl', r3, rs2.mono g3, p3, e', fun σ' rs' _ => ⟨sl', cs2, μ2, U3, r3, rs', OutS.turn h3 fun sl4 cs4 σ4 U4 H4 μ4 g4 r4 rs4 h4 => ?_⟩⟩
          exact ⟨sl4, cs4, μ4, U4, (ex.trans g3.vv).trans g4.vv, mm.trans g4.mm, r4, rs4, h4⟩
        · exact h3.elim

/-! ### while -/
end
def whileN (c : FT) (body : FS) : Nat → Sl → Cells → RS
  | 0, _, _ => .bad
  | n + 1, sl, cs => (c sl cs).go sl fun b cs1 => if b = true then (body sl cs1).turn (whileN c body n) else .nx sl cs1
def sWhile (c : FT) (body : FS) : FS := whileN c body FU
section
variable {X : Cx} {W : WX} {c : FT} {body : FS} {cc : Expr} {sts : List Stmt} {pos : Pos}
theorem s_while (hp : PassesOwn (model X.prog X.w) X.A X.env X.xe) (hc : PT X cc (rdT X.K X.mg W c)) (hb : PSs X sts (rdS X.K X.mg W body)) : PS X (.While cc sts [] pos) (rdS X.K X.mg W (sWhile c body)) := PS.le (ps_while hp hc hb) fun D σ H q => by
  obtain ⟨sl, cs, μ, U, r0, rs, q⟩ := q
  refine ⟨fun m σ H => ∃ sl cs μ U, Rel0 X.K X.mg cs μ U H ∧ RelS X.K X.mg U μ sl σ ∧ OutS X.K X.mg W D U H μ (whileN c body m sl cs), ⟨FU, sl, cs, μ, U, r0, rs, q⟩, ?_⟩
  rintro m σ2 H2 ⟨sl2, cs2, μ2, U2, r2, rs2, h2⟩
  cases m with
  | zero => exact h2.elim
  | succ m =>
    refine ⟨sl2, cs2, μ2, U2, r2, rs2, OutS.seq h2 rs2 fun b cs3 w U3 H3 μ3 _ g3 r3 p3 h3 => ?_⟩
    subst p3
    cases b with
    | false => rw [if_neg Bool.false_ne_true] at h3 ⊢; exact h3 _ _ _ _ Gr.refl r3 (rs2.mono g3)
    | true =>
      rw [if_pos rfl] at h3 ⊢
      refine ⟨fun σ H => ∃ sl cs μ U, Rel0 X.K X.mg cs μ U H ∧ RelS X.K X.mg U μ sl σ ∧ OutS X.K X.mg W D U H μ (whileN c body m sl cs), fun σ' H' hN => ⟨m, Nat.lt_succ_self _, hN⟩, sl2, cs3, μ3, U3, r3, rs2.mono g3, OutS.turn h3 fun sl4 cs4 σ4 U4 H4 μ4 g4 r4 rs4 h4 => ⟨sl4, cs4, μ4, U4, r4, rs4, h4⟩⟩
end
end AL

set_option Elab.async false
set_option linter.all false
set_option autoImplicit false
set_option maxRecDepth 100000
set_option maxHeartbeats 4000000
/-! Own layer, part 6: comprehensions, calls of own defs, a def's promise, methods of lists. -/
namespace AL
open PySem PySem.Spec PyProof.Rows L2

/-! ### list comprehensions -/
/-- nothing is raised there -/
def noX {α : Type} : Res α → Res α
  | .ok a cs => .ok a cs
  | _ => .bad
@[simp] theorem noX_ok {α : Type} (a : α) (cs : Cells) : noX (.ok a cs) = .ok a cs := rfl
@[simp] theorem noX_bad {α : Type} : noX (.bad : Res α) = .bad := rfl
/-- one turn: nothing, or one more item -/
def lcTurn (g : FG) (c : FT) (e : FE) (sl : Sl) (v : Pv) (cs : Cells) : Res (Option Pv) := match g v sl cs with
  | some sl2 => (noX (c sl2 cs)).bind fun b cs1 => if b = true then (noX (e sl2 cs1)).bind fun y cs2 => .ok (some y) cs2 else .ok none cs1
  | none => .bad
def lcN (it : Nat → Cells → Option (Option Pv)) (turn : Pv → Cells → Res (Option Pv)) : Nat → Nat → List Pv → Cells → Res (List Pv)
  | 0, _, _, _ => .bad
  | n + 1, i, acc, cs => match it i cs with
    | some (some v) => (turn v cs).bind fun o cs1 => match o with
      | some y => guard_ (fits (acc.length + 1)) (lcN it turn n (i + 1) (acc ++ [y]) cs1)
      | none => lcN it turn n (i + 1) acc cs1
    | some none => .ok acc cs
    | none => .bad
def lcL (turn : Pv → Cells → Res (Option Pv)) : List Pv → Cells → Res (List Pv)
  | [], cs => .ok [] cs
  | v :: vs, cs => (turn v cs).bind fun o cs1 => (lcL turn vs cs1).bind fun ys cs2 => .ok (match o with | some y => y :: ys | none => ys) cs2
theorem Res.bind_assoc {α β γ : Type} (r : Res α) (k : α → Cells → Res β) (l : β → Cells → Res γ) : (r.bind k).bind l = r.bind fun a cs => (k a cs).bind l := by cases r <;> rfl
theorem Res.bind_id {α : Type} (r : Res α) : (r.bind fun a cs => .ok a cs) = r := by cases r <;> rfl
theorem lcN_fz (turn : Pv → Cells → Res (Option Pv)) (ps : List Pv) : ∀ (n i : Nat) (acc : List Pv) (cs : Cells), i ≤ ps.length → ps.length < i + n → acc.length + (ps.length - i) ≤ 16777216 →
    lcN (Src.fz ps).it turn n i acc cs = (lcL turn (ps.drop i) cs).bind fun ys cs1 => .ok (acc ++ ys) cs1
  | 0, i, acc, cs, h0, h, _ => by omega
  | n + 1, i, acc, cs, h0, h, hf => by
    show (match (if i ≤ ps.length then some ps[i]? else none) with
      | some (some v) => (turn v cs).bind fun o cs1 => match o with
        | some y => guard_ (fits (acc.length + 1)) (lcN (Src.fz ps).it turn n (i + 1) (acc ++ [y]) cs1)
        | none => lcN (Src.fz ps).it turn n (i + 1) acc cs1
      | some none => .ok acc cs
      | none => .bad) = _
    rw [if_pos h0]
    by_cases hi : i < ps.length
    · rw [List.getElem?_eq_getElem hi, List.drop_eq_getElem_cons hi]
      show (turn ps[i] cs).bind _ = ((turn ps[i] cs).bind _).bind _
      rw [Res.bind_assoc]
      congr 1
      funext o cs1
      rw [Res.bind_assoc]
      cases o with
      | some y =>
        show guard_ (fits (acc.length + 1)) _ = _
        rw [guard_of (show fits (acc.length + 1) = true from decide_eq_true (by omega))]
        rw [lcN_fz turn ps n (i + 1) (acc ++ [y]) cs1 (by omega) (by omega) (by rw [List.length_append, List.length_singleton]; omega)]
        congr 1
        funext ys cs2
        show Res.ok ((acc ++ [y]) ++ ys) cs2 = Res.ok (acc ++ (y :: ys)) cs2
        rw [List.append_assoc]
        rfl
      | none => exact lcN_fz turn ps n (i + 1) acc cs1 (by omega) (by omega) (by omega)
    · rw [List.getElem?_eq_none (by omega), List.drop_eq_nil_iff.mpr (by omega)]
      show Res.ok acc cs = Res.ok (acc ++ []) cs
      rw [List.append_nil]
def lcS (turn : Pv → Cells → Res (Option Pv)) (s : Src) (cs : Cells) : Res (List Pv) := match s with
  | .fz ps => guard_ (fits ps.length) (lcL turn ps cs)
  | .lv it => lcN it turn FU 0 [] cs
theorem lcS_N (turn : Pv → Cells → Res (Option Pv)) (s : Src) (cs : Cells) : lcS turn s cs = .bad ∨ ∃ n, lcS turn s cs = lcN s.it turn n 0 [] cs := by
  cases s with
  | fz ps =>
    show guard_ (fits ps.length) (lcL turn ps cs) = .bad ∨ _
    cases hf : fits ps.length with
    | false => exact .inl rfl
    | true =>
      refine .inr ⟨ps.length + 1, ?_⟩
      show guard_ (fits ps.length) (lcL turn ps cs) = _
      rw [guard_of hf, lcN_fz turn ps _ 0 [] cs (by omega) (by omega) (by have := of_decide_eq_true hf; simp; omega)]
      show lcL turn ps cs = (lcL turn ps cs).bind fun ys cs1 => .ok ys cs1
      rw [Res.bind_id]
  | lv it => exact .inr ⟨FU, rfl⟩
/-- [e for g in src if c], frozen | a cell; vs: the comprehension's own slots -/
def fLc (src : FI) (g : FG) (c : FT) (e : FE) (vs : List Nat) : FE := fun sl cs => (src sl cs).bind fun s cs1 => (lcS (lcTurn g c e (wipeS sl vs)) s cs1).bind fun ys cs2 => .ok (.lst ys) cs2
def fLcC (src : FI) (g : FG) (c : FT) (e : FE) (vs : List Nat) : FE := fun sl cs => (src sl cs).bind fun s cs1 => (lcS (lcTurn g c e (wipeS sl vs)) s cs1).bind fun ys cs2 => .ok (.ref cs2.length) (cs2 ++ [.lst ys])
def fYes : FT := fun _ cs => .ok true cs
abbrev W0 : WX := fun _ _ _ _ => False
theorem out_noX {K : PySem.W.Frag} {mg : Str → Option Value} {α β γ δ : Type} {R : Hp → List Addr → α → γ → Prop} {R' : Hp → List Addr → β → δ → Prop} {E E' : XK} {U0 H0 U H : Hp} {μ0 μ : List Addr} {r : Res α} {k : α → Cells → Res β} {Q : δ → Hp → Prop} {Q1 : γ → Hp → Prop} (h : Out K mg R' E U0 H0 μ0 ((noX r).bind k) Q)
    (c : ∀ a cs1 w U1 H1 μ1, Gr U H μ U1 H1 μ1 → Rel0 K mg cs1 μ1 U1 H1 → R U1 μ1 a w → Out K mg R' E U0 H0 μ0 (k a cs1) Q → Q1 w H1) : Out K mg R E' U H μ r Q1 := by
  cases r with
  | ok a cs => exact fun w U' H' μ' g' r' q => c a cs w U' H' μ' g' r' q h
  | exn c fs cs => exact h.elim
  | bad => exact h.elim
section
variable {K : PySem.W.Frag} {mg : Str → Option Value} {W : WX} {src : FI} {g : FG} {c : FT} {e : FE} {vs : List Nat}
theorem rd_lc {mk : List Pv → Cells → Res Pv} (cell : Bool) (hmk : ∀ ys cs, mk ys cs = if cell = true then .ok (.ref cs.length) (cs ++ [.lst ys]) else .ok (.lst ys) cs) (σ : L2.St) (H : Hp) (Q : VK)
    (q : rdE K mg W (fun sl cs => (src sl cs).bind fun s cs1 => (lcS (lcTurn g c e (wipeS sl vs)) s cs1).bind mk) σ H Q) : tLc (rdI K mg W src) (rdG K mg vs g) (rdT K mg W0 c) (rdE K mg W0 e) vs σ H Q := by
  obtain ⟨sl, cs, μ, U, r0, rs, q⟩ := q
  refine ⟨sl, cs, μ, U, r0, rs, Out.seq q fun s cs1 J U1 H1 μ1 _ g1 r1 hJ h1 => fun D hD => ?_⟩
  rcases lcS_N (lcTurn g c e (wipeS sl vs)) s cs1 with hb | ⟨n, hn⟩
  · rw [hb] at h1; exact h1.elim
  rw [hn] at h1
  obtain ⟨rD, gD⟩ := r1.hidden (o := .lst []) hD
  have hUD : U1 D = none := r1.vh.none hD
  have hmD : D ∉ μ1 := fun z => r1.there z hD
  have rs1 := (rs.mono g1).wipe vs
  refine ⟨fun i m H => ∃ acc ws cs μ U, Gr U1 H1 μ1 U H μ ∧ Rel0 K mg cs μ U H ∧ H D = some (.lst ws) ∧ U D = none ∧ D ∉ μ ∧ RepVs K mg U μ acc ws ∧ Out K mg (RepV K mg) (fun c d H => W c d σ H) U1 H1 μ1 ((lcN s.it (lcTurn g c e (wipeS sl vs)) m i acc cs).bind mk) Q,
    ⟨n, [], [], cs1, μ1, U1, gD, rD, upd_same, hUD, hmD, .nil, h1⟩, ?_⟩
  rintro i m H2 ⟨acc, ws, cs2, μ2, U2, g2, r2, hD2, hU2, hm2, rp2, h2⟩
  cases m with
  | zero => exact h2.elim
  | succ m =>
    have hJ2 := hJ U2 H2 μ2 cs2 i g2.vv g2.mm r2
    have h2 : Out K mg (RepV K mg) (fun c d H => W c d σ H) U1 H1 μ1 ((match s.it i cs2 with
      | some (some v) => (lcTurn g c e (wipeS sl vs) v cs2).bind fun o cs1 => match o with
        | some y => guard_ (fits (acc.length + 1)) (lcN s.it (lcTurn g c e (wipeS sl vs)) m (i + 1) (acc ++ [y]) cs1)
        | none => lcN s.it (lcTurn g c e (wipeS sl vs)) m (i + 1) acc cs1
      | some none => .ok acc cs2
      | none => .bad).bind mk) Q := h2
    cases hv : s.it i cs2 with
    | none => rw [hv] at h2; exact h2.elim
    | some o =>
      rw [hv] at h2 hJ2
      cases o with
      | none =>
        refine .inl ⟨hJ2, ?_⟩
        have h2 : Out K mg (RepV K mg) (fun c d H => W c d σ H) U1 H1 μ1 (mk acc cs2) Q := h2
        rw [hmk] at h2
        cases cell with
        | false =>
          rw [if_neg Bool.false_ne_true] at h2
          obtain ⟨r3, ex3⟩ := r2.show_ hD2 hU2 hm2
          refine h2 _ _ _ μ2 ⟨g2.vv.trans ex3, g2.mm, fun a o ha hu hm => ?_⟩ r3 (.lst (.of upd_same) (rp2.mono ex3 (List.prefix_refl _)))
          obtain ⟨b1, b2, b3⟩ := g2.hid a o ha hu hm
          exact ⟨b1, by rw [upd_ne (ne_of_none ha hD)]; exact b2, b3⟩
        | true =>
          rw [if_pos rfl] at h2
          have pm : μ2 <+: μ2 ++ [D] := List.prefix_append _ _
          have r3 := r2.cell (p := D) (c := .lst acc) ⟨ws, hD2, rp2.mono (Ex.refl _) pm⟩ hU2 hm2
          refine h2 _ U2 _ (μ2 ++ [D]) ⟨g2.vv, g2.mm.trans pm, fun a o ha hu hm => ?_⟩ r3 (.ref ?_)
          · obtain ⟨b1, b2, b3⟩ := g2.hid a o ha hu hm
            refine ⟨b1, b2, fun z => ?_⟩
            rcases List.mem_append.mp z with z | z
            · exact b3 z
            · exact ne_of_none ha hD (by simpa using z)
          · rw [← r2.len, List.getElem?_append_right (Nat.le_refl _), Nat.sub_self]; rfl
      | some v =>
        obtain ⟨go, yl⟩ := hJ2
        have nx : ∀ {acc' : List Pv} {ws' : List V} {cs' : Cells} {μ' : List Addr} {U' H' : Hp}, Gr U1 H1 μ1 U' H' μ' → Rel0 K mg cs' μ' U' H' → H' D = some (.lst ws') → U' D = none → D ∉ μ' → RepVs K mg U' μ' acc' ws' → Out K mg (RepV K mg) (fun c d H => W c d σ H) U1 H1 μ1 ((lcN s.it (lcTurn g c e (wipeS sl vs)) m (i + 1) acc' cs').bind mk) Q →
          ∃ acc ws cs μ U, Gr U1 H1 μ1 U H' μ ∧ Rel0 K mg cs μ U H' ∧ H' D = some (.lst ws) ∧ U D = none ∧ D ∉ μ ∧ RepVs K mg U μ acc ws ∧ Out K mg (RepV K mg) (fun c d H => W c d σ H) U1 H1 μ1 ((lcN s.it (lcTurn g c e (wipeS sl vs)) m (i + 1) acc cs).bind mk) Q :=
          fun a1 a2 a3 a4 a5 a6 a7 => ⟨_, _, _, _, _, a1, a2, a3, a4, a5, a6, a7⟩
        refine .inr ⟨go, fun H => ∃ acc ws cs μ U, Gr U1 H1 μ1 U H μ ∧ Rel0 K mg cs μ U H ∧ H D = some (.lst ws) ∧ U D = none ∧ D ∉ μ ∧ RepVs K mg U μ acc ws ∧ Out K mg (RepV K mg) (fun c d H => W c d σ H) U1 H1 μ1 ((lcN s.it (lcTurn g c e (wipeS sl vs)) m (i + 1) acc cs).bind mk) Q, fun H' hN => ⟨m, Nat.lt_succ_self _, hN⟩, fun x H3 y => ?_⟩
        obtain ⟨U3, g3, r3, p3⟩ := yl x H3 y
        obtain ⟨d3, u3, m3⟩ := g3.hid D _ hD2 hU2 hm2
        have G3 := g2.trans g3
        have rs3 : RelS K mg U3 μ2 (wipeS sl vs) (L2.wipe σ vs) := (rs1.mono g2).mono g3
        have rp3 := rp2.mono g3.vv g3.mm
        have h2 : Out K mg (RepV K mg) (fun c d H => W c d σ H) U1 H1 μ1 ((((match g v (wipeS sl vs) cs2 with
          | some sl2 => (noX (c sl2 cs2)).bind fun b cs1 => if b = true then (noX (e sl2 cs1)).bind fun y cs2 => .ok (some y) cs2 else .ok none cs1
          | none => .bad) : Res (Option Pv)).bind fun o cs1 => match o with
            | some y => guard_ (fits (acc.length + 1)) (lcN s.it (lcTurn g c e (wipeS sl vs)) m (i + 1) (acc ++ [y]) cs1)
            | none => lcN s.it (lcTurn g c e (wipeS sl vs)) m (i + 1) acc cs1).bind mk) Q := h2
        split at h2
        · rename_i sl2 esl
          refine ⟨v, wipeS sl vs, cs2, μ2, U3, sl2, r3, rs3, p3, esl, fun σ2 rs2 hw => ⟨hw.trans (wipe_wipe σ vs), ?_⟩⟩
          rw [Res.bind_assoc, Res.bind_assoc] at h2
          refine ⟨sl2, cs2, μ2, U3, r3, rs2, out_noX h2 fun b cs4 wb U4 H4 μ4 g4 r4 pb h4 => ?_⟩
          obtain ⟨d4, u4, m4⟩ := g4.hid D _ d3 u3 m3
          have G4 := G3.trans g4
          subst pb
          cases b with
          | false =>
            rw [if_neg Bool.false_ne_true] at h4 ⊢
            exact nx G4 r4 d4 u4 m4 (rp3.mono g4.vv g4.mm) h4
          | true =>
            rw [if_pos rfl] at h4 ⊢
            rw [Res.bind_assoc] at h4
            refine ⟨sl2, cs4, μ4, U4, r4, rs2.mono g4, out_noX h4 fun y cs5 wy U5 H5 μ5 g5 r5 py h5 => ?_⟩
            obtain ⟨d5, u5, m5⟩ := g5.hid D _ d4 u4 m4
            have G5 := G4.trans g5
            have h5 : Out K mg (RepV K mg) (fun c d H => W c d σ H) U1 H1 μ1 ((guard_ (fits (acc.length + 1)) (lcN s.it (lcTurn g c e (wipeS sl vs)) m (i + 1) (acc ++ [y]) cs5)).bind mk) Q := h5
            cases hz : fits (acc.length + 1) with
            | false => rw [hz] at h5; exact h5.elim
            | true =>
              rw [hz] at h5
              have rp5 := (rp3.mono g4.vv g4.mm).mono g5.vv g5.mm
              refine ⟨ws, d5, ?_, nx ?_ (r5.turn u5 m5) upd_same u5 m5 (rp5.append (.cons py .nil)) h5⟩
              · have := fits.ok hz
                rw [← rp2.length]; omega
              · refine ⟨G5.vv, G5.mm, fun a o ha hu hm => ?_⟩
                obtain ⟨b1, b2, b3⟩ := G5.hid a o ha hu hm
                exact ⟨by rw [upd_ne (ne_of_none ha hD)]; exact b1, b2, b3⟩
        · exact h2.elim
end
theorem PTs.le {X : Cx} {es : List Expr} {t t' : TT} (h : PTs X es t) (l : ∀ σ H Q, t' σ H Q → t σ H Q) : PTs X es t' := ⟨fun pins s σ H Q I q => h.run pins s σ H Q I (l σ H Q q)⟩
section
variable {X : Cx} {W : WX} {src : FI} {g : FG} {c : FT} {e : FE} {elt tg iter cc : Expr} {ifs : List Expr} {scope : Scope} {own : List (Str × Nat)} {pos spos py : Pos}
theorem ts_nil : PTs X [] (rdT X.K X.mg W fYes) := PTs.le pts_nil fun σ H Q q => by
  obtain ⟨sl, cs, μ, U, r0, rs, q⟩ := q
  exact q _ _ _ _ Gr.refl r0 rfl
theorem ts_one (h : PT X cc (rdT X.K X.mg W c)) : PTs X [cc] (rdT X.K X.mg W c) := pts_one h
theorem b_lc (hc : X.calm = true) (hN : X.N.Nodup) (ok : BlkOk X.N X.env.scope scope own) (hi : PI X tg iter (rdI X.K X.mg W src))
    (hg : ∀ (s : Shared) (H : Hp) (C : Addr) (cl : List (Str × Addr)) (fp : List Addr), PG (X.blk s H scope (compEnvC scope cl C X.env) fp) tg (rdG X.K X.mg (own.map (·.2)) g)) (ht : ∀ (s : Shared) (H : Hp) (C : Addr) (cl : List (Str × Addr)) (fp : List Addr), PTs (X.blk s H scope (compEnvC scope cl C X.env) fp) ifs (rdT X.K X.mg W0 c))
    (he : ∀ (s : Shared) (H : Hp) (C : Addr) (cl : List (Str × Addr)) (fp : List Addr), PE (X.blk s H scope (compEnvC scope cl C X.env) fp) elt (rdE X.K X.mg W0 e)) (hs : ∀ x, foldedSetIterable iter X.env x = pure x := by intro _; rfl) :
    PE X (.ListComp elt [⟨tg, iter, ifs, 0⟩] scope pos) (rdE X.K X.mg W (fLc src g c e (own.map (·.2)))) := PE.le (pe_lc hc hN hi ok hg ht he hs) (rd_lc false fun _ _ => rfl)
theorem b_lcC (hc : X.calm = true) (hN : X.N.Nodup) (ok : BlkOk X.N X.env.scope scope own) (hi : PI X tg iter (rdI X.K X.mg W src))
    (hg : ∀ (s : Shared) (H : Hp) (C : Addr) (cl : List (Str × Addr)) (fp : List Addr), PG (X.blk s H scope (compEnvC scope cl C X.env) fp) tg (rdG X.K X.mg (own.map (·.2)) g)) (ht : ∀ (s : Shared) (H : Hp) (C : Addr) (cl : List (Str × Addr)) (fp : List Addr), PTs (X.blk s H scope (compEnvC scope cl C X.env) fp) ifs (rdT X.K X.mg W0 c))
    (he : ∀ (s : Shared) (H : Hp) (C : Addr) (cl : List (Str × Addr)) (fp : List Addr), PE (X.blk s H scope (compEnvC scope cl C X.env) fp) elt (rdE X.K X.mg W0 e)) (hs : ∀ x, foldedSetIterable iter X.env x = pure x := by intro _; rfl) :
    PE X (.ListComp elt [⟨tg, iter, ifs, 0⟩] scope pos) (rdE X.K X.mg W (fLcC src g c e (own.map (·.2)))) := PE.le (pe_lc hc hN hi ok hg ht he hs) (rd_lc true fun _ _ => rfl)
/-- y = [..] -/
theorem s_asgLc {i : Nat} {y : Str} (hc : X.calm = true) (hN : X.N.Nodup) (hsw : swapsWith (.ListComp elt [⟨tg, iter, ifs, 0⟩] scope pos) (some (.Name y py)) spos.line X.env = pure true) (ok : BlkOk X.N X.env.scope scope own) (hi : PI X tg iter (rdI X.K X.mg W src))
    (hg : ∀ (s : Shared) (H : Hp) (C : Addr) (cl : List (Str × Addr)) (fp : List Addr), PG (X.blk s H scope (compEnvC scope cl C X.env) fp) tg (rdG X.K X.mg (own.map (·.2)) g)) (ht : ∀ (s : Shared) (H : Hp) (C : Addr) (cl : List (Str × Addr)) (fp : List Addr), PTs (X.blk s H scope (compEnvC scope cl C X.env) fp) ifs (rdT X.K X.mg W0 c))
    (he : ∀ (s : Shared) (H : Hp) (C : Addr) (cl : List (Str × Addr)) (fp : List Addr), PE (X.blk s H scope (compEnvC scope cl C X.env) fp) elt (rdE X.K X.mg W0 e)) (hy : X.N[i]? = some y := by rfl) (hyl : X.env.scope.names.lookup y = some .local := by rfl) (hs : ∀ x, foldedSetIterable iter X.env x = pure x := by intro _; rfl) :
    PS X (.Assign [.Name y py] (.ListComp elt [⟨tg, iter, ifs, 0⟩] scope pos) spos) (rdS X.K X.mg W (sAsg i (fLc src g c e (own.map (·.2))))) := PS.le (ps_setLc hc hN hy hyl hsw hi ok hg ht he hs) fun D σ H q => by
  obtain ⟨sl, cs, μ, U, r0, rs, q⟩ := q
  exact rd_lc false (fun _ _ => rfl) σ H _ ⟨sl, cs, μ, U, r0, rs, OutS.seq q rs fun x cs1 w U1 H1 μ1 _ g1 r1 p1 h1 => h1 _ _ _ _ Gr.refl r1 ((rs.mono g1).set p1 i)⟩
theorem s_asgLcC {i : Nat} {y : Str} (hc : X.calm = true) (hN : X.N.Nodup) (hsw : swapsWith (.ListComp elt [⟨tg, iter, ifs, 0⟩] scope pos) (some (.Name y py)) spos.line X.env = pure true) (ok : BlkOk X.N X.env.scope scope own) (hi : PI X tg iter (rdI X.K X.mg W src))
    (hg : ∀ (s : Shared) (H : Hp) (C : Addr) (cl : List (Str × Addr)) (fp : List Addr), PG (X.blk s H scope (compEnvC scope cl C X.env) fp) tg (rdG X.K X.mg (own.map (·.2)) g)) (ht : ∀ (s : Shared) (H : Hp) (C : Addr) (cl : List (Str × Addr)) (fp : List Addr), PTs (X.blk s H scope (compEnvC scope cl C X.env) fp) ifs (rdT X.K X.mg W0 c))
    (he : ∀ (s : Shared) (H : Hp) (C : Addr) (cl : List (Str × Addr)) (fp : List Addr), PE (X.blk s H scope (compEnvC scope cl C X.env) fp) elt (rdE X.K X.mg W0 e)) (hy : X.N[i]? = some y := by rfl) (hyl : X.env.scope.names.lookup y = some .local := by rfl) (hs : ∀ x, foldedSetIterable iter X.env x = pure x := by intro _; rfl) :
    PS X (.Assign [.Name y py] (.ListComp elt [⟨tg, iter, ifs, 0⟩] scope pos) spos) (rdS X.K X.mg W (sAsg i (fLcC src g c e (own.map (·.2))))) := PS.le (ps_setLc hc hN hy hyl hsw hi ok hg ht he hs) fun D σ H q => by
  obtain ⟨sl, cs, μ, U, r0, rs, q⟩ := q
  exact rd_lc true (fun _ _ => rfl) σ H _ ⟨sl, cs, μ, U, r0, rs, OutS.seq q rs fun x cs1 w U1 H1 μ1 _ g1 r1 p1 h1 => h1 _ _ _ _ Gr.refl r1 ((rs.mono g1).set p1 i)⟩
end

/-! ### a, b = x, y (plain local names) -/
def sPar (i j : Nat) (t : FA) : FS := fun sl cs => (t sl cs).go sl fun vs cs1 => match vs with
  | [v, w] => .nx ((sl.set i (some v)).set j (some w)) cs1
  | _ => .bad
def sPar3 (i j l : Nat) (t : FA) : FS := fun sl cs => (t sl cs).go sl fun vs cs1 => match vs with
  | [u, v, w] => .nx (((sl.set i (some u)).set j (some v)).set l (some w)) cs1
  | _ => .bad
section
variable {X : Cx} {W : WX} {t : FA} {a b c : Expr} {px py pz pt pos : Pos} {x y z : Str}
theorem s_par {i j : Nat} {kt k2 pt2} (hc : X.calm = true) (hN : X.N.Nodup) (ha : PA X [a, b] (rdA X.K X.mg W t)) (hi : X.N[i]? = some x := by rfl) (hj : X.N[j]? = some y := by rfl) (hij : i ≠ j := by decide)
    (hx : X.env.scope.names.lookup x = some .local := by rfl) (hy : X.env.scope.names.lookup y = some .local := by rfl)
    (hw : swappedStores [.Tuple [.Name x px, .Name y py] kt pt] (.Tuple [a, b] k2 pt2) X.env = pure (some [x, y]) := by rfl)
    (hs : swapsWithSole [.Tuple [.Name x px, .Name y py] kt pt] (.Tuple [a, b] k2 pt2) pos.line X.env = pure false := by rfl) :
    PS X (.Assign [.Tuple [.Name x px, .Name y py] kt pt] (.Tuple [a, b] k2 pt2) pos) (rdS X.K X.mg W (sPar i j t)) := PS.le (ps_par hc hN hi hj hij hx hy ha hw hs) fun D σ H q => by
  obtain ⟨sl, cs, μ, U, r0, rs, q⟩ := q
  refine ⟨sl, cs, μ, U, r0, rs, OutS.seq q rs fun vs cs1 ws U1 H1 μ1 _ g1 r1 p1 h1 => ?_⟩
  split at h1
  · cases p1 with
    | cons q1 q2 =>
      cases q2 with
      | cons q2 q3 =>
        cases q3
        exact ⟨_, _, rfl, h1 _ _ _ _ Gr.refl r1 (((rs.mono g1).set q1 i).set q2 j)⟩
  · exact h1.elim
theorem s_par3 {i j l : Nat} {kt k2 pt2} (hc : X.calm = true) (hN : X.N.Nodup) (ha : PA X [a, b, c] (rdA X.K X.mg W t)) (hi : X.N[i]? = some x := by rfl) (hj : X.N[j]? = some y := by rfl) (hl : X.N[l]? = some z := by rfl) (hij : i ≠ j := by decide) (hil : i ≠ l := by decide) (hjl : j ≠ l := by decide)
    (hx : X.env.scope.names.lookup x = some .local := by rfl) (hy : X.env.scope.names.lookup y = some .local := by rfl) (hz : X.env.scope.names.lookup z = some .local := by rfl)
    (hw : swappedStores [.Tuple [.Name x px, .Name y py, .Name z pz] kt pt] (.Tuple [a, b, c] k2 pt2) X.env = pure (some [x, y, z]) := by rfl)
    (hs : swapsWithSole [.Tuple [.Name x px, .Name y py, .Name z pz] kt pt] (.Tuple [a, b, c] k2 pt2) pos.line X.env = pure false := by rfl) :
    PS X (.Assign [.Tuple [.Name x px, .Name y py, .Name z pz] kt pt] (.Tuple [a, b, c] k2 pt2) pos) (rdS X.K X.mg W (sPar3 i j l t)) := PS.le (ps_par3 hc hN hi hj hl hij hil hjl hx hy hz ha hw hs) fun D σ H q => by
  obtain ⟨sl, cs, μ, U, r0, rs, q⟩ := q
  refine ⟨sl, cs, μ, U, r0, rs, OutS.seq q rs fun vs cs1 ws U1 H1 μ1 _ g1 r1 p1 h1 => ?_⟩
  split at h1
  · cases p1 with
    | cons q1 q2 =>
      cases q2 with
      | cons q2 q3 =>
        cases q3 with
        | cons q3 q4 =>
          cases q4
          exact ⟨_, _, _, rfl, h1 _ _ _ _ Gr.refl r1 ((((rs.mono g1).set q1 i).set q2 j).set q3 l)⟩
  · exact h1.elim
end

/-! ### methods of built-in types -/
def tyIs (T : String) (v : Pv) (cs : Cells) : Bool := match v with
  | .str _ => T == "str"
  | .int _ => T == "int"
  | v => (T == "list" && (asL cs v).isSome) || (T == "dict" && match v with
    | .ref k => match cs[k]? with
      | some (.dK _) => true
      | some (.dT _) => true
      | _ => false
    | _ => false)
theorem tyIs_ok {K : PySem.W.Frag} {mg : Str → Option Value} {U H : Hp} {μ : List Addr} {cs : Cells} {T : String} {p : Pv} {v : V} (r : Rel0 K mg cs μ U H) (h : RepV K mg U μ p v) (e : tyIs T p cs = true) : tyV K T v H := by
  unfold tyIs at e
  split at e
  · cases h; exact (show T = "str" by simpa using e)
  · cases h; exact (show T = "int" by simpa using e)
  · rcases Bool.or_eq_true_iff.mp e with e | e
    · obtain ⟨e1, e2⟩ := Bool.and_eq_true_iff.mp e
      obtain ⟨xs, ex⟩ := Option.isSome_iff_exists.mp e2
      obtain ⟨a, ws, rfl, s, q⟩ := asL_ok r h ex
      exact .inl ⟨by simpa using e1, ws, s⟩
    · obtain ⟨e1, e2⟩ := Bool.and_eq_true_iff.mp e
      split at e2
      · cases h with
        | ref hm =>
          split at e2
          · rename_i kvs hk
            obtain ⟨ws, h1, _⟩ := r.cel _ _ _ hk hm
            exact .inr (.inr (.inl ⟨by simpa using e1, .inl ⟨ws, h1⟩⟩))
          · rename_i kvs hk
            obtain ⟨ws, h1, _⟩ := r.cel _ _ _ hk hm
            exact .inr (.inr (.inl ⟨by simpa using e1, .inr ⟨ws, h1⟩⟩))
          · cases e2
      · cases e2
abbrev FM := Pv → List Pv → Cells → Res Pv
def fMeth (T : String) (m : FM) (o : FE) (t : FA) : FE := fun sl cs => (o sl cs).bind fun ov cs1 => guard_ (tyIs T ov cs1) ((t sl cs1).bind fun vs cs2 => m ov vs cs2)
def fMeth0 (T : String) (m : FM) (o : FE) : FE := fun sl cs => (o sl cs).bind fun ov cs1 => guard_ (tyIs T ov cs1) (m ov [] cs1)
def OkM (K : PySem.W.Frag) (mg : Str → Option Value) (m : FM) (r : V → List V → Hp → VK → Prop) : Prop := ∀ (E : XK) p ps cs v vs U H μ Q, Rel0 K mg cs μ U H → RepV K mg U μ p v → RepVs K mg U μ ps vs → Out K mg (RepV K mg) E U H μ (m p ps cs) Q → r v vs H Q
section
variable {X : Cx} {W : WX} {fo : FE} {t : FA} {o e : Expr} {es : List Expr} {apos cpos : Pos} {T id : String} {name : Str} {r : V → List V → Hp → VK → Prop} {m : FM}
theorem b_meth (pa : PlainAttrs T) (slot : Slot T name id) (hty : typeOf (.builtin id) = pure (.type "method_descriptor")) (hm : MtR X id r) (hr : OkM X.K X.mg m r) (ho : PE X o (rdE X.K X.mg W fo)) (ha : PA X (e :: es) (rdA X.K X.mg W t))
    (hbase : attributeBase o name X.env (eval o X.env) = eval o X.env := by rfl)
    (hfew : ((backTo cpos (starEach (e :: es) X.env)).all (fun x => !x.1) && (backToKw cpos (keywordEach [] X.env)).all (fun x => x.1.isSome)
      && decide ((e :: es).length + ([] : List Keyword).length + (if ([] : List Keyword).isEmpty then 0 else 1) < 30)) = true := by rfl)
    (hline : (apos.endLine == cpos.line) = true := by rfl) (hs : starEach (e :: es) X.env = (false, eval e X.env) :: starEach es X.env := by rfl) (hplain : (backTo cpos (starEach es X.env)).any (·.1) = false := by rfl) :
    PE X (.Call (.Attribute o name apos) (e :: es) [] cpos) (rdE X.K X.mg W (fMeth T m fo t)) := PE.le (pe_bm pa slot hty hm ho ha hbase hfew hline hs hplain) fun σ H Q q => by
  obtain ⟨sl, cs, μ, U, r0, rs, q⟩ := q
  refine ⟨sl, cs, μ, U, r0, rs, Out.seq q fun ov cs1 w U1 H1 μ1 _ g1 r1 p1 h1 => ?_⟩
  obtain ⟨hz, h1⟩ := out_guard h1
  exact ⟨tyIs_ok r1 p1 hz, sl, cs1, μ1, U1, r1, rs.mono g1, Out.seq h1 fun vs cs2 ws U2 H2 μ2 _ g2 r2 p2 h2 => hr _ _ _ _ _ _ _ _ _ _ r2 (p1.mono g2.vv g2.mm) p2 h2⟩
theorem b_meth0 (pa : PlainAttrs T) (slot : Slot T name id) (hty : typeOf (.builtin id) = pure (.type "method_descriptor")) (hm : MtR X id r) (hr : OkM X.K X.mg m r) (ho : PE X o (rdE X.K X.mg W fo))
    (hbase : attributeBase o name X.env (eval o X.env) = eval o X.env := by rfl) (hline : (apos.endLine == cpos.line) = true := by rfl) : PE X (.Call (.Attribute o name apos) [] [] cpos) (rdE X.K X.mg W (fMeth0 T m fo)) := PE.le (pe_bm0 pa slot hty hm ho hbase hline) fun σ H Q q => by
  obtain ⟨sl, cs, μ, U, r0, rs, q⟩ := q
  refine ⟨sl, cs, μ, U, r0, rs, Out.seq q fun ov cs1 w U1 H1 μ1 _ g1 r1 p1 h1 => ?_⟩
  obtain ⟨hz, h1⟩ := out_guard h1
  exact ⟨tyIs_ok r1 p1 hz, hr _ _ _ _ _ _ _ _ _ _ r1 p1 .nil h1⟩
end
def mAppend : FM := fun o vs cs => match o, vs with
  | .ref k, [v] => match cs[k]? with
    | some (.lst xs) => guard_ (fits (xs.length + 1)) (.ok .non (cs.set k (.lst (xs ++ [v]))))
    | _ => .bad
  | _, _ => .bad
theorem ok_append {K : PySem.W.Frag} {mg : Str → Option Value} : OkM K mg mAppend rAppend := by
  intro E p ps cs v vs U H μ Q r hp hps h
  unfold mAppend at h
  split at h
  · split at h
    · rename_i xs hk
      obtain ⟨hz, h⟩ := out_guard h
      cases hp with
      | ref hm =>
        cases hps with
        | cons h1 h2 =>
          cases h2
          obtain ⟨ws, q1, q2⟩ := r.cel _ _ _ hk hm
          refine ⟨_, ws, _, rfl, rfl, q1, by have := fits.ok hz; rw [← q2.length]; omega, ?_⟩
          obtain ⟨r4, g4⟩ := r.put (c' := .lst (xs ++ [_])) (o := .lst (ws ++ [_])) hk (fun z => nomatch z) hm ⟨_, rfl, q2.append (.cons h1 .nil)⟩
          exact h _ _ _ _ g4 r4 .non
    · exact h.elim
  · exact h.elim

/-! ### own defs -/
section
variable (K : PySem.W.Frag) (mg : Str → Option Value)
/-- a def's promise: the plain function m -/
def spOf (n : Nat) (m : FN) : Sp := fun vs H Q E => vs.length = n ∧ ∃ ps cs μ U, Rel0 K mg cs μ U H ∧ RepVs K mg U μ ps vs ∧ Out K mg (RepV K mg) E U H μ (m ps cs) Q
end
def LenA (t : FA) (n : Nat) : Prop := ∀ sl cs vs cs1, t sl cs = .ok vs cs1 → vs.length = n
theorem len_nil : LenA fNil 0 := fun _ _ vs cs1 h => by cases h; rfl
theorem len_cons {f : FE} {t : FA} {n : Nat} (h : LenA t n) : LenA (fCons f t) (n + 1) := fun sl cs vs cs1 e => by
  unfold fCons at e
  cases hf : f sl cs with
  | ok v cs2 =>
    rw [hf] at e
    have e : (t sl cs2).bind (fun vs cs2 => Res.ok (v :: vs) cs2) = .ok vs cs1 := e
    cases ht : t sl cs2 with
    | ok us cs3 =>
      rw [ht] at e
      cases e
      rw [List.length_cons, h sl cs2 us _ ht]
    | exn c fs cs3 => rw [ht] at e; cases e
    | bad => rw [ht] at e; cases e
  | exn c fs cs2 => rw [hf] at e; cases e
  | bad => rw [hf] at e; cases e
section
variable {X : Cx} {W : WX} {t : FA} {k n : Nat} {f : Addr} {fd : FuncData} {ps : List Str} {m : FN} {x : Str} {p pos : Pos} {e : Expr} {es : List Expr}
theorem b_call (F : FnOk X.prog X.w X.K X.mg X.base (L2.CX X.prog X.w) k f fd ps (spOf X.K X.mg n m)) (hr : Room k X.A) (hm : X.mg x = some (.ref f)) (hk : PySem.W.keepIn X.K (.ref f) = true) (hb : Binds X.K fd ps []) (tk : Takes X W)
    (ha : PA X (e :: es) (rdA X.K X.mg W t)) (hl : LenA t n) (hg : Gl X x := by rfl) (hdb : (x == ("__debug__" : Str)) = false := by decide) (he : starEach (e :: es) X.env = (false, eval e X.env) :: starEach es X.env := by rfl) (hpl : (backTo pos (starEach es X.env)).any (·.1) = false := by rfl) :
    PE X (.Call (.Name x p) (e :: es) [] pos) (rdE X.K X.mg W (fCall m t)) := PE.le (pe_callS F hr hg hm hk hb (fun σ => passAt tk σ) ha hdb he hpl) fun σ H Q q => by
  obtain ⟨sl, cs, μ, U, r0, rs, q⟩ := q
  exact ⟨sl, cs, μ, U, r0, rs, Out.seq q fun vs cs1 ws U1 H1 μ1 ev g1 r1 p1 h1 => ⟨by rw [← p1.length]; exact hl _ _ _ _ ev, vs, cs1, μ1, U1, r1, p1, h1⟩⟩
theorem takesB {X : Cx} : Takes X W0 := fun _ _ x => by
  obtain ⟨_, _, _, _, _, _, _, _, _, _, _, _, _, _, _, _, z⟩ := x
  exact z.elim
end
/-- what a def's body comes to, as a function -/
def fnOut : RS → Res Pv
  | .rt v cs => .ok v cs
  | .nx _ cs => .ok .non cs
  | .exn c fs _ cs => .exn c fs cs
  | _ => .bad
def slots (N : Nat) (ps : List Pv) : Sl := ps.map some ++ List.replicate (N - ps.length) none
def fnSem (n N : Nat) (body : FS) : FN := fun ps cs => fnOut (body (slots N ps) cs)
theorem relS_start {K : PySem.W.Frag} {mg : Str → Option Value} {U : Hp} {μ : List Addr} {ps : List Pv} {vs : List V} {N : List Str} (h : RepVs K mg U μ ps vs) : RelS K mg U μ (slots N.length ps) (start N vs) := by
  have hl := h.length
  refine ⟨?_, fun i p e => ?_⟩
  · unfold slots L2.start
    simp [hl]
  · unfold slots at e
    by_cases hi : i < ps.length
    · rw [List.getElem?_append_left (by simpa using hi), List.getElem?_map] at e
      obtain ⟨q, h1, h2⟩ := Option.map_eq_some_iff.mp e
      cases h2
      obtain ⟨v, h3, h4⟩ := h.at h1
      refine ⟨v, ?_, h4⟩
      unfold L2.start
      rw [List.getElem?_append_left (by rw [List.length_map, ← hl]; exact hi), List.getElem?_map, h3]
      rfl
    · rw [List.getElem?_append_right (by simpa using hi), List.getElem?_replicate] at e
      split at e <;> cases e
section
variable {P : Program} {w : World} {K : PySem.W.Frag} {mg : Str → Option Value} {base : Heap} {x qual : Str} {st : Stmt} {f : Addr} {fd : FuncData} {N ps : List Str} {k : Nat}
/-- THE RULE for a def -/
theorem fn_ok {body : FS} (F : Fun K x qual st f fd) (S : FnScope N ps (defScope st))
    (hb : ∀ (cdv : Value) (A : Around) (outer : List Env) (s : Shared) (H : Hp) (E : XK), Room k (A.deeper (envOfC qual (defScope st) s.heap.objs.size f cdv)) → Takes (cxOf (L2.CX P w) P w K mg base N qual (defScope st) f cdv A outer s H E) (fun cls d _ H => E cls d H) →
      PassesOwn (model P w) (A.deeper (envOfC qual (defScope st) s.heap.objs.size f cdv)) (envOfC qual (defScope st) s.heap.objs.size f cdv) (cxOf (L2.CX P w) P w K mg base N qual (defScope st) f cdv A outer s H E).xe →
      PSs (cxOf (L2.CX P w) P w K mg base N qual (defScope st) f cdv A outer s H E) (defBody st) (rdS K mg (fun cls d _ H => E cls d H) body)) :
    FnOk P w K mg base (L2.CX P w) (k + 1) f fd ps (spOf K mg ps.length (fnSem ps.length N.length body)) := by
  refine F.okX S (fun vs H Q E h => h.1) (fun cdv A outer s H vs Q E hr h => ⟨_, hb cdv A outer s H E hr (takes_of rfl rfl rfl rfl) (passes_of rfl), ?_⟩)
  obtain ⟨_, qs, cs, μ, U, r0, rp, h⟩ := h
  refine ⟨slots N.length qs, cs, μ, U, r0, relS_start rp, ?_⟩
  unfold fnSem at h
  cases hbd : body (slots N.length qs) cs with
  | rt v cs1 => rw [hbd] at h; exact h
  | nx sl cs1 => rw [hbd] at h; exact fun σ' U' H' μ' g r rs => h _ U' H' μ' g r .non
  | exn c fs sl cs1 => rw [hbd] at h; exact fun C d σ' U' H' μ' g r rs m x => h C d U' H' μ' g r m x
  | bk sl cs1 => rw [hbd] at h; exact h.elim
  | ct sl cs1 => rw [hbd] at h; exact h.elim
  | bad => rw [hbd] at h; exact h.elim
/-- a plainer function that says the same where it says anything; what it leaves out are new cells -/
theorem fn_imp {CX : CXT} {n : Nat} {m m' : FN} (F : FnOk P w K mg base CX k f fd ps (spOf K mg n m)) (h : ∀ qs cs, qs.length = n → m' qs cs = .bad ∨ m qs cs = m' qs cs) : FnOk P w K mg base CX k f fd ps (spOf K mg n m') :=
  F.imp fun vs H Q E q => by
    obtain ⟨hn, qs, cs, μ, U, r0, rp, q⟩ := q
    refine ⟨hn, qs, cs, μ, U, r0, rp, ?_⟩
    rcases h qs cs (by rw [rp.length]; exact hn) with e | e
    · rw [e] at q; exact q.elim
    · rw [e]; exact q
end
end AL

set_option Elab.async false
set_option linter.all false
set_option autoImplicit false
set_option maxRecDepth 100000
set_option maxHeartbeats 4000000
/-! Own layer, part 7: zip over lists and tuples in any mix. -/
namespace AL
open PySem PySem.Spec PyProof.Rows L2

inductive Kd where
  | l | t
def SqX (K : PySem.W.Frag) (k : Kd) (H : Hp) (a : Addr) (xs : List V) : Prop := match k with
  | .l => SqL K H a xs
  | .t => SqT K H a xs
def ItX (k : Kd) (h : Heap) (it a : Addr) (i : Nat) : Prop := match k with
  | .l => h.IsListIter it a i
  | .t => h.IsTupleIter it a i
def SeX (k : Kd) (h : Heap) (a : Addr) (its : Array Value) : Prop := match k with
  | .l => h.IsList a its
  | .t => h.IsTuple a its
theorem ItX.obj {k : Kd} {h : Heap} {it a : Addr} {i : Nat} (x : ItX k h it a i) : ∃ o, h.get? it = some o ∧ ∀ v, o.data ≠ .cell v := by
  cases k with
  | l => obtain ⟨o, e, _, d⟩ := x; exact ⟨o, e, fun v q => by rw [d] at q; cases q⟩
  | t => obtain ⟨o, e, _, d⟩ := x; exact ⟨o, e, fun v q => by rw [d] at q; cases q⟩
theorem ItX.at {k : Kd} {h h' : Heap} {it a : Addr} {i : Nat} (x : ItX k h it a i) (e : ∀ o, h.get? it = some o → h'.get? it = some o) : ItX k h' it a i := by
  cases k with
  | l => exact Heap.IsListIter.at x e
  | t => exact Heap.IsTupleIter.at x e
theorem drawsX {prog : Program} {w : World} {A : Around} (k : Kd) (hh : A.handled = none) (it a : Addr) (hne : a ≠ it) (items : Array Value) : Draws prog w A it [it, a] items.size (fun i v => items[i]? = some v) (fun i h => ItX k h it a i ∧ SeX k h a items) := by
  cases k with
  | l => exact Draws.list hh it a hne items
  | t => exact Draws.tuple hh it a hne items
theorem Inv.seqX {X : Cx} {pins : List (Addr × Obj)} {σ : L2.St} {H : Hp} {s : Shared} {k : Kd} {a : Addr} {xs : List V} (I : Inv X pins σ H s) (h : SqX X.K k H a xs) : ∃ its : List Value, Vals xs its ∧ SeX k s.heap a its.toArray ∧ a < s.heap.objs.size := by
  cases k with
  | l => obtain ⟨its, r, p, _⟩ := I.list h; exact ⟨its, r, p.isList, p.lt⟩
  | t => obtain ⟨its, r, p, _⟩ := I.tuple h; obtain ⟨o, ho, _⟩ := id p; exact ⟨its, r, p, Heap.lt_size ho⟩
theorem Inv.seqX_inj {X : Cx} {pins : List (Addr × Obj)} {σ : L2.St} {H : Hp} {s : Shared} {k : Kd} {a : Addr} {xs ys : List V} (I : Inv X pins σ H s) (h : SqX X.K k H a xs) (h' : SqX X.K k H a ys) : xs = ys := by
  cases k with
  | l => exact I.list_inj h h'
  | t => exact I.tuple_inj h h'
theorem ne_it {k : Kd} {h : Heap} {a it : Addr} {its : Array Value} {i : Nat} (p : SeX k h a its) (x : ItX k h it a i) : a ≠ it := fun q => by
  subst q
  cases k with
  | l =>
    obtain ⟨o, e, c, _⟩ := p
    obtain ⟨o1, e1, c1, _⟩ := x
    rw [e] at e1; cases e1
    rw [c] at c1
    exact absurd c1 (by decide)
  | t =>
    obtain ⟨o, e, c, _⟩ := p
    obtain ⟨o1, e1, c1, _⟩ := x
    rw [e] at e1; cases e1
    rw [c] at c1
    exact absurd c1 (by decide)
theorem sub5 {c z TI TO i1 i2 : Addr} (q : c ∈ [z, TO, i1, i2]) : c ∈ [z, TI, TO, i1, i2] := by
  have q2 : c = z ∨ c = TO ∨ c = i1 ∨ c = i2 := by simpa using q
  rcases q2 with r | r | r | r <;> rw [r] <;> simp
def ItzX (K : PySem.W.Frag) (k1 k2 : Kd) (a b : Addr) : It :=
  ⟨fun i H => ∃ (xs ys : List V) (x y : V), SqX K k1 H a xs ∧ SqX K k2 H b ys ∧ xs[i]? = some x ∧ ys[i]? = some y,
    fun i H v H' => ∃ T x y, v = .ref T ∧ H T = none ∧ H' = upd H T (.tup [x, y]) ∧ (∀ xs, SqX K k1 H a xs → xs[i]? = some x) ∧ ∀ ys, SqX K k2 H b ys → ys[i]? = some y,
    fun i H => ∃ xs ys : List V, SqX K k1 H a xs ∧ SqX K k2 H b ys ∧ i = min xs.length ys.length⟩
def znX (z TI TO i1 i2 : Addr) (k1 k2 : Kd) (a b : Addr) (i : Nat) (h : Heap) : Prop := IsZip h z TI TO .none ∧ IsTupOf2 h TI (.ref i1) (.ref i2) ∧ (∃ x y, IsTupOf2 h TO x y) ∧ ItX k1 h i1 a i ∧ ItX k2 h i2 b i
theorem turn_zipX {P : Program} {w : World} {K : PySem.W.Frag} {elts : List Expr} {kk : Nat} {tpos : Pos} {k1 k2 : Kd} {a b z TI TO i1 i2 : Addr} (S : ZipSep2 z TI TO i1 i2 [i1, a] [i2, b]) :
    Turn P w K (.Tuple elts kk tpos) (ItzX K k1 k2 a b) [z, TI, TO, i1, i2] z (znX z TI TO i1 i2 k1 k2 a b) where
  mem := by simp
  obj := fun i h st c hc => by
    obtain ⟨hz, hTI, ⟨x, y, hTO⟩, h1, h2⟩ := st
    have e' : c = z ∨ c = TI ∨ c = TO ∨ c = i1 ∨ c = i2 := by simpa using hc
    rcases e' with q | q | q | q | q
    · rw [q]; exact ⟨_, hz, fun v q => nomatch q⟩
    · rw [q]; exact ⟨_, hTI, fun v q => nomatch q⟩
    · rw [q]; exact ⟨_, hTO, fun v q => nomatch q⟩
    · rw [q]; exact h1.obj
    · rw [q]; exact h2.obj
  keep := fun i h h' st k => by
    obtain ⟨hz, hTI, ⟨x, y, hTO⟩, h1, h2⟩ := st
    exact ⟨k z (by simp) _ hz, k TI (by simp) _ hTI, ⟨x, y, k TO (by simp) _ hTO⟩, h1.at fun o q => k i1 (by simp) o q, h2.at fun o q => k i2 (by simp) o q⟩
  item := by
    intro X hP hw hK hc i pins s σ H E I hf st hg
    subst hP hw hK
    obtain ⟨hz, hTI, hTO, h1, h2⟩ := st
    obtain ⟨xs, ys, x, y, hqx, hqy, hx, hy⟩ := hg
    obtain ⟨its, rv, p, la⟩ := Inv.seqX I hqx
    obtain ⟨its2, rv2, p2, lb⟩ := Inv.seqX I hqy
    obtain ⟨u, hu, ru⟩ := rv.get hx
    obtain ⟨u2, hu2, ru2⟩ := rv2.get hy
    have hh : X.A.in1.handled = none := I.ok.hd hc
    have na : a ≠ i1 := ne_it p h1
    have nb : b ≠ i2 := ne_it p2 h2
    have G := GoesN.zip2 (prog := X.prog) (w := X.w) (A := X.A) (elts := elts) (x1 := kk) (pos := tpos) S (drawsX k1 hh i1 a na its.toArray) (drawsX k2 hh i2 b nb its2.toArray)
    have hi : i < min its.toArray.size its2.toArray.size := by
      have a1 := (List.getElem?_eq_some_iff.mp hu).1
      have a2 := (List.getElem?_eq_some_iff.mp hu2).1
      simp only [List.size_toArray]; omega
    have fr : ∀ c ∈ [z, TI, TO, i1, i2], c < s.heap.objs.size := fun c hc => by
      have e' : c = z ∨ c = TI ∨ c = TO ∨ c = i1 ∨ c = i2 := by simpa using hc
      obtain ⟨tx, ty, hTO'⟩ := hTO
      rcases e' with q | q | q | q | q
      · rw [q]; exact Heap.lt_size hz
      · rw [q]; exact Heap.lt_size hTI
      · rw [q]; exact Heap.lt_size hTO'
      · rw [q]; obtain ⟨_, e, _⟩ := h1.obj; exact Heap.lt_size e
      · rw [q]; obtain ⟨_, e, _⟩ := h2.obj; exact Heap.lt_size e
    refine G.goes i s (fun u s2 => ∃ x H', Inv X pins σ H' s2 ∧ RelV x u ∧ (ItzX X.K k1 k2 a b).yld i H x H' ∧ znX z TI TO i1 i2 k1 k2 a b (i + 1) s2.heap ∧ ∀ b ∈ [z, TI, TO, i1, i2], H' b = none) E hi ⟨hz, hTI, hTO, ⟨h1, p⟩, h2, p2⟩ ?_
    intro v h' tk hY st' hk htk
    obtain ⟨T, x', y', rfl, hnew, hx', hy', hT⟩ := hY
    have ex : x' = u := Option.some.inj (hx'.symm.trans (by simpa using hu))
    have ey : y' = u2 := Option.some.inj (hy'.symm.trans (by simpa using hu2))
    subst ex; subst ey
    have new : ObjOk X.prog X.w (upd H T (.tup [x, y])) h' T (.tup [x, y]) := ⟨by show 2 ≤ sizeLine; decide, [x', y'], .cons ru (.cons ru2 .nil), hT⟩
    have I1 : Inv X pins σ (upd H T (.tup [x, y])) { s with heap := h', toks := tk } :=
      I.turnedNew (t' := tk) (ch := [z, TI, TO, i1, i2]) (fun c o hb q => hk c o (fun q' => hb (sub5 q')) q) hf hnew new
    refine ⟨.ref T, _, I1, rfl, ⟨T, x, y, rfl, I.hok.fresh hnew, rfl, fun l hl => by rw [Inv.seqX_inj I hl hqx]; exact hx, fun l hl => by rw [Inv.seqX_inj I hl hqy]; exact hy⟩, ?_, fun c hcm => ?_⟩
    · obtain ⟨a1, a2, a3, a4, a5⟩ := st'
      exact ⟨a1, a2, a3, a4.1, a5.1⟩
    · rw [upd_ne (Nat.ne_of_lt (Nat.lt_of_lt_of_le (fr c hcm) hnew))]
      exact (hf c hcm).1
  done := by
    intro X hP hw hK hc i pins s σ H E I hf st hg
    subst hP hw hK
    obtain ⟨hz, hTI, hTO, h1, h2⟩ := st
    obtain ⟨xs, ys, hqx, hqy, hend⟩ := hg
    obtain ⟨its, rv, p, la⟩ := Inv.seqX I hqx
    obtain ⟨its2, rv2, p2, lb⟩ := Inv.seqX I hqy
    have hh : X.A.in1.handled = none := I.ok.hd hc
    have na : a ≠ i1 := ne_it p h1
    have nb : b ≠ i2 := ne_it p2 h2
    have G := GoesN.zip2 (prog := X.prog) (w := X.w) (A := X.A) (elts := elts) (x1 := kk) (pos := tpos) S (drawsX k1 hh i1 a na its.toArray) (drawsX k2 hh i2 b nb its2.toArray)
    have ei : i = min its.toArray.size its2.toArray.size := by
      have l1 := rv.length
      have l2 := rv2.length
      simp only [List.size_toArray]; omega
    refine G.stops s (fun s1 => Inv X pins σ H s1) E ⟨hz, hTI, hTO, ⟨by rw [← ei]; exact h1, p⟩, by rw [← ei]; exact h2, p2⟩ fun h' tk hk htk => ?_
    exact I.turnedL (t' := tk) (ch := [z, TI, TO, i1, i2]) (fun c o hb q => hk c o (fun q' => hb (sub5 q')) q) hf
  self := fun A i s Q E st h => wpAny_pyIter_zip st.1 h

def iZipX (K : PySem.W.Frag) (ta : TA) : TI := fun σ H R => ta σ H fun vs H1 => ∃ k1 k2 a b xs ys, vs = [.ref a, .ref b] ∧ SqX K k1 H1 a xs ∧ SqX K k2 H1 b ys ∧ R (ItzX K k1 k2 a b) H1
theorem begX (k : Kd) (a : Addr) (items : Array Value) : ∃ o, Begins (.ref a) o (fun h => SeX k h a items) ∧ ∀ h it, h.get? it = some o → ItX k h it a 0 := by
  cases k with
  | l => exact ⟨_, begins_list a items, fun h it e => ⟨_, e, rfl, rfl⟩⟩
  | t => exact ⟨_, begins_tuple a items, fun h it e => ⟨_, e, rfl, rfl⟩⟩
theorem pi_zipX {X : Cx} {e e2 : Expr} {ta : TA} {p pos tpos : Pos} {elts : List Expr} {kk : Nat} (hg : Gl X "zip") (hm : X.mg "zip" = none) (ha : PA X [e, e2] ta)
    (hs : starEach [e, e2] X.env = (false, eval e X.env) :: starEach [e2] X.env := by rfl) (hpl : (backTo pos (starEach [e2] X.env)).any (·.1) = false := by rfl) :
    PI X (.Tuple elts kk tpos) (.Call (.Name "zip" p) [e, e2] [] pos) (iZipX X.K ta) := by
  refine ⟨fun pins s σ H R I h => ?_⟩
  refine Call_ (ld_blt I hg hm PyProof.Rows.boot_zip (PyProof.Rows.callWith_type1 (thn (ha.run pos pins s σ H _ I h) fun us s1 ⟨vs, H1, I1, r1, q1⟩ => ?_) hs hpl))
  obtain ⟨k1, k2, a, b, xs, ys, ex, hqx, hqy, q⟩ := q1
  subst ex
  cases r1 with
  | cons r rr =>
    cases rr with
    | cons r' rr =>
      cases rr
      cases r
      cases r'
      obtain ⟨its, rv, p1, la⟩ := Inv.seqX I1 hqx
      obtain ⟨its2, rv2, p2, lb⟩ := Inv.seqX I1 hqy
      obtain ⟨o1, B1, z1⟩ := begX k1 a its.toArray
      obtain ⟨o2, B2, z2⟩ := begX k2 b its2.toArray
      refine zip_begins2 B1 B2 p1 p2 fun h' hz hTI hTO h1 h2 hsz hk => wpAny_pyIter_zip hz ?_
      have I2 : Inv X pins σ H1 { s1 with heap := h' } := I1.kept (t' := s1.toks) hk
      have S := zip_sep2 (N := s1.heap.objs.size) (fp1 := [a]) (fp2 := [b]) (fun c hc => by rw [List.mem_singleton.mp hc]; exact la) (fun c hc => by rw [List.mem_singleton.mp hc]; exact lb)
      refine ⟨s1.heap.objs.size + 4, [s1.heap.objs.size + 4, s1.heap.objs.size + 2, s1.heap.objs.size + 3, s1.heap.objs.size, s1.heap.objs.size + 1], _, _, H1, rfl, I2, turn_zipX (k1 := k1) (k2 := k2) S, ⟨hz, hTI, ⟨_, _, hTO⟩, z1 _ _ h1, z2 _ _ h2⟩, fun c hcm => ?_, q⟩
      have e' : c = s1.heap.objs.size + 4 ∨ c = s1.heap.objs.size + 2 ∨ c = s1.heap.objs.size + 3 ∨ c = s1.heap.objs.size ∨ c = s1.heap.objs.size + 1 := by simpa using hcm
      have hle : s1.heap.objs.size ≤ c := by
        rcases e' with z | z | z | z | z
        · rw [z]; exact Nat.le_add_right _ _
        · rw [z]; exact Nat.le_add_right _ _
        · rw [z]; exact Nat.le_add_right _ _
        · rw [z]; exact Nat.le_refl _
        · rw [z]; exact Nat.le_add_right _ _
      exact I1.fpOk hle (I1.hok.fresh hle)

/-! ### zip as a source -/
def isFz : Pv → Bool
  | .ref _ => false
  | _ => true
def pairUp (xs ys : List Pv) : List Pv := List.zipWith (fun p q => .tup [p, q]) xs ys
def zipIt (x y : Pv) : Nat → Cells → Option (Option Pv) := fun i cs => match seqOf cs x, seqOf cs y with
  | some xs, some ys => if i ≤ (pairUp xs ys).length then some (pairUp xs ys)[i]? else none
  | _, _ => none
def iZip (f g : FE) : FI := fun sl cs => (f sl cs).bind fun x cs1 => (g sl cs1).bind fun y cs2 => match seqOf cs2 x, seqOf cs2 y with
  | some xs, some ys => if (isFz x && isFz y) = true then .ok (.fz (pairUp xs ys)) cs2 else .ok (.lv (zipIt x y)) cs2
  | _, _ => .bad
theorem seqOf_X {K : PySem.W.Frag} {mg : Str → Option Value} {U H : Hp} {μ : List Addr} {cs : Cells} {p : Pv} {v : V} {xs : List Pv} (r : Rel0 K mg cs μ U H) (h : RepV K mg U μ p v) (e : seqOf cs p = some xs) :
    ∃ k a, v = .ref a ∧ ∀ U' H' μ' cs' ys, Ex U U' → μ <+: μ' → Rel0 K mg cs' μ' U' H' → seqOf cs' p = some ys → ∃ ws, SqX K k H' a ws ∧ RepVs K mg U' μ' ys ws := by
  unfold seqOf at e
  split at e
  · cases e
    cases h with
    | tup s q => exact ⟨.t, _, rfl, fun U' H' μ' cs' ys ex m r' e' => by cases e'; exact ⟨_, r'.vh.t (ex.t s), q.mono ex m⟩⟩
  · rename_i hnt
    cases h with
    | lst s q => exact ⟨.l, _, rfl, fun U' H' μ' cs' ys ex m r' e' => by cases e'; exact ⟨_, r'.vh.l (ex.l s), q.mono ex m⟩⟩
    | ref hm => exact ⟨.l, _, rfl, fun U' H' μ' cs' ys ex m r' e' => by
        obtain ⟨a, ws, e1, s, q⟩ := asL_ok r' (.ref (pre_get m hm)) e'
        cases e1
        exact ⟨ws, s, q⟩⟩
    | tup s q => cases e
    | _ => cases e
theorem seqOf_fz {cs cs' : Cells} {p : Pv} (h : isFz p = true) : seqOf cs p = seqOf cs' p := by
  cases p <;> first | rfl | cases h
theorem pair_at {K : PySem.W.Frag} {mg : Str → Option Value} {U : Hp} {μ : List Addr} {xs ys : List Pv} {vs ws : List V} (h1 : RepVs K mg U μ xs vs) (h2 : RepVs K mg U μ ys ws) {i : Nat} {p : Pv} (e : (pairUp xs ys)[i]? = some p) :
    ∃ a b v w, p = .tup [a, b] ∧ vs[i]? = some v ∧ ws[i]? = some w ∧ RepV K mg U μ a v ∧ RepV K mg U μ b w := by
  unfold pairUp at e
  rw [List.getElem?_zipWith] at e
  cases ha : xs[i]? with
  | none => rw [ha] at e; cases e
  | some a =>
    cases hb : ys[i]? with
    | none => rw [ha, hb] at e; cases e
    | some b =>
      rw [ha, hb] at e
      cases e
      obtain ⟨v, q1, q2⟩ := h1.at ha
      obtain ⟨w, q3, q4⟩ := h2.at hb
      exact ⟨a, b, v, w, rfl, q1, q3, q2, q4⟩
/-- what a sequence holds is told by the heap -/
theorem it_zip {K : PySem.W.Frag} {mg : Str → Option Value} {U0 : Hp} {μ0 : List Addr} {x y : Pv} {k1 k2 : Kd} {a b : Addr}
    (h1 : ∀ U' H' μ' cs' ys, Ex U0 U' → μ0 <+: μ' → Rel0 K mg cs' μ' U' H' → seqOf cs' x = some ys → ∃ ws, SqX K k1 H' a ws ∧ RepVs K mg U' μ' ys ws)
    (h2 : ∀ U' H' μ' cs' ys, Ex U0 U' → μ0 <+: μ' → Rel0 K mg cs' μ' U' H' → seqOf cs' y = some ys → ∃ ws, SqX K k2 H' b ws ∧ RepVs K mg U' μ' ys ws) : ItOk K mg (zipIt x y) (ItzX K k1 k2 a b) U0 μ0 := by
  intro U H μ cs i e m r
  unfold zipIt
  cases ex : seqOf cs x with
  | none => trivial
  | some xs =>
    cases ey : seqOf cs y with
    | none => trivial
    | some ys =>
      obtain ⟨vs, s1, q1⟩ := h1 U H μ cs xs e m r ex
      obtain ⟨ws, s2, q2⟩ := h2 U H μ cs ys e m r ey
      show match (if i ≤ (pairUp xs ys).length then some (pairUp xs ys)[i]? else none) with | some (some p) => _ | some none => _ | none => _
      have hl : (pairUp xs ys).length = min vs.length ws.length := by unfold pairUp; rw [List.length_zipWith, q1.length, q2.length]
      by_cases hle : i ≤ (pairUp xs ys).length
      case neg => rw [if_neg hle]; trivial
      rw [if_pos hle]
      cases hp : (pairUp xs ys)[i]? with
      | none => exact ⟨vs, ws, s1, s2, by have := List.getElem?_eq_none_iff.mp hp; omega⟩
      | some p =>
        obtain ⟨pa, pb, v, w, rfl, a1, a2, a3, a4⟩ := pair_at q1 q2 hp
        refine ⟨⟨vs, ws, v, w, s1, s2, a1, a2⟩, fun z H' yl => ?_⟩
        obtain ⟨T, z1, z2, rfl, hT, rfl, f1, f2⟩ := yl
        have e1 : z1 = v := Option.some.inj ((f1 vs s1).symm.trans a1)
        have e2 : z2 = w := Option.some.inj ((f2 ws s2).symm.trans a2)
        subst e1; subst e2
        obtain ⟨r1, g1⟩ := r.freeze (o := .tup [z1, z2]) hT
        exact ⟨_, g1, r1, .tup (.of upd_same) (.cons (a3.mono g1.vv g1.mm) (.cons (a4.mono g1.vv g1.mm) .nil))⟩
theorem zipIt_fz {x y : Pv} {cs : Cells} {xs ys : List Pv} (hx : isFz x = true) (hy : isFz y = true) (ex : seqOf cs x = some xs) (ey : seqOf cs y = some ys) : zipIt x y = (Src.fz (pairUp xs ys)).it := by
  funext i cs'
  unfold zipIt
  rw [seqOf_fz (cs := cs') (cs' := cs) hx, seqOf_fz (cs := cs') (cs' := cs) hy, ex, ey]
  rfl
theorem i_zip {X : Cx} {W : WX} {f g : FE} {e e2 : Expr} {p pos tpos : Pos} {elts : List Expr} {kk : Nat} (hm : X.mg "zip" = none) (ha : PE X e (rdE X.K X.mg W f)) (hb : PE X e2 (rdE X.K X.mg W g)) (hg : Gl X "zip" := by rfl)
    (hs : starEach [e, e2] X.env = (false, eval e X.env) :: starEach [e2] X.env := by rfl) (hs2 : starEach [e2] X.env = (false, eval e2 X.env) :: starEach [] X.env := by rfl) (hpl : (backTo pos (starEach [e2] X.env)).any (·.1) = false := by rfl) :
    PI X (.Tuple elts kk tpos) (.Call (.Name "zip" p) [e, e2] [] pos) (rdI X.K X.mg W (iZip f g)) := PI.le (pi_zipX hg hm (a_cons ha (a_cons hb a_nil hs2) hs) hs hpl) fun σ H R q => by
  obtain ⟨sl, cs, μ, U, r0, rs, q⟩ := q
  refine ⟨sl, cs, μ, U, r0, rs, ?_⟩
  unfold iZip at q
  show Out _ _ _ _ _ _ _ ((f sl cs).bind fun v cs1 => ((g sl cs1).bind fun v2 cs2 => (Res.ok [] cs2).bind fun vs cs3 => .ok (v2 :: vs) cs3).bind fun vs cs2 => .ok (v :: vs) cs2) _
  cases hf : f sl cs with
  | bad => rw [hf] at q; exact q.elim
  | exn c fs cs1 => rw [hf] at q; exact q
  | ok v cs1 =>
    rw [hf] at q
    simp only [Res.bind_ok] at q ⊢
    cases hg2 : g sl cs1 with
    | bad => rw [hg2] at q; exact q.elim
    | exn c fs cs1 => rw [hg2] at q; exact q
    | ok v2 cs2 =>
      rw [hg2] at q
      simp only [Res.bind_ok] at q ⊢
      intro w U1 H1 μ1 g1 r1 p1
      have q := Out.later g1 q
      cases p1 with
      | cons h1 h2 =>
        cases h2 with
        | cons h2 h3 =>
          cases h3
          cases ex : seqOf cs2 v with
          | none => rw [ex] at q; exact q.elim
          | some xs =>
            cases ey : seqOf cs2 v2 with
            | none => rw [ex, ey] at q; exact q.elim
            | some ys =>
              rw [ex, ey] at q
              obtain ⟨k1, a, rfl, w1⟩ := seqOf_X r1 h1 ex
              obtain ⟨k2, b, rfl, w2⟩ := seqOf_X r1 h2 ey
              obtain ⟨vs, s1, _⟩ := w1 _ _ _ _ _ (Ex.refl _) (List.prefix_refl _) r1 ex
              obtain ⟨ws, s2, _⟩ := w2 _ _ _ _ _ (Ex.refl _) (List.prefix_refl _) r1 ey
              refine ⟨k1, k2, a, b, vs, ws, rfl, s1, s2, ?_⟩
              have hz := it_zip w1 w2
              have q : Out X.K X.mg (fun U μ (s : Src) J => ItOk X.K X.mg s.it J U μ) (fun c d H => W c d σ H) U1 H1 μ1 (if (isFz v && isFz v2) = true then .ok (.fz (pairUp xs ys)) cs2 else .ok (.lv (zipIt v v2)) cs2) R := q
              split at q
              · rename_i hfz
                obtain ⟨f1, f2⟩ := Bool.and_eq_true_iff.mp hfz
                rw [zipIt_fz f1 f2 ex ey] at hz
                exact q _ _ _ _ Gr.refl r1 hz
              · exact q _ _ _ _ Gr.refl r1 hz
end AL

set_option Elab.async false
set_option linter.all false
set_option autoImplicit false
set_option maxRecDepth 100000
set_option maxHeartbeats 4000000
/-! Own layer, part 8: the plain semantics, step by step, for simp; comprehensions and loops by words. -/
namespace AL
open PySem L2
section
variable {f g h o i : FE} {c d : FT} {t : FA} {a b s : FS} {sl : Sl} {cs : Cells}
@[simp] theorem ap_fnSem (n N : Nat) (b : FS) (ps : List Pv) (cs : Cells) : fnSem n N b ps cs = fnOut (b (slots N ps) cs) := rfl
@[simp] theorem ap_slots (N : Nat) (ps : List Pv) : slots N ps = ps.map some ++ List.replicate (N - ps.length) none := rfl
@[simp] theorem ap_out_rt (v : Pv) (cs : Cells) : fnOut (.rt v cs) = .ok v cs := rfl
@[simp] theorem ap_out_nx (sl : Sl) (cs : Cells) : fnOut (.nx sl cs) = .ok .non cs := rfl
@[simp] theorem ap_out_exn (c : Str) (fs : List (Str × Pv)) (sl : Sl) (cs : Cells) : fnOut (.exn c fs sl cs) = .exn c fs cs := rfl
@[simp] theorem ap_con (v : Pv) : fCon v sl cs = .ok v cs := rfl
theorem ap_var (k : Nat) : fVar k sl cs = match sl[k]? with | some (some v) => .ok v cs | _ => .bad := rfl
@[simp] theorem ap_var0 {x : Pv} {r : Sl} : fVar 0 (some x :: r) cs = .ok x cs := rfl
@[simp] theorem ap_varS {x : Option Pv} {r : Sl} (k : Nat) : fVar (k + 1) (x :: r) cs = fVar k r cs := rfl
@[simp] theorem ap_f2 (q : F2) : f2 q f g sl cs = (f sl cs).bind fun x cs1 => (g sl cs1).bind fun y cs2 => q x y cs2 := rfl
@[simp] theorem ap_f1 (q : Pv → Cells → Res Pv) : f1 q f sl cs = (f sl cs).bind fun x cs1 => q x cs1 := rfl
@[simp] theorem ap_tru : fTru f sl cs = (f sl cs).bind tru := rfl
@[simp] theorem ap_tst : fTst f sl cs = (f sl cs).bind fun v cs => match v with | .bl b => .ok b cs | _ => .bad := rfl
@[simp] theorem ap_not : fNot c sl cs = (c sl cs).bind fun b cs => .ok (!b) cs := rfl
@[simp] theorem ap_and : fAnd c d sl cs = (c sl cs).bind fun b cs1 => if b = true then d sl cs1 else .ok false cs1 := rfl
@[simp] theorem ap_or : fOr c d sl cs = (c sl cs).bind fun b cs1 => if b = true then .ok true cs1 else d sl cs1 := rfl
@[simp] theorem ap_ifE : fIfE c f g sl cs = (c sl cs).bind fun b cs1 => if b = true then f sl cs1 else g sl cs1 := rfl
@[simp] theorem ap_andV : fAndV f g sl cs = (f sl cs).bind fun v cs1 => match v with | .bl b => if b = true then g sl cs1 else .ok (.bl false) cs1 | _ => .bad := rfl
@[simp] theorem ap_orV : fOrV f g sl cs = (f sl cs).bind fun v cs1 => match v with | .bl b => if b = true then .ok (.bl true) cs1 else g sl cs1 | _ => .bad := rfl
@[simp] theorem ap_notV : fNotV f sl cs = (f sl cs).bind fun v cs1 => match v with | .bl b => .ok (.bl (!b)) cs1 | _ => .bad := rfl
@[simp] theorem ap_chain (q q' : F2) : fChain q q' f g h sl cs = (f sl cs).bind fun x cs1 => (g sl cs1).bind fun y cs2 => (q x y cs2).bind fun z cs3 => match z with | .bl b => if b = true then (h sl cs3).bind fun w cs4 => q' y w cs4 else .ok (.bl false) cs3 | _ => .bad := rfl
@[simp] theorem ap_nil : fNil sl cs = .ok [] cs := rfl
@[simp] theorem ap_cons : fCons f t sl cs = (f sl cs).bind fun v cs1 => (t sl cs1).bind fun vs cs2 => .ok (v :: vs) cs2 := rfl
@[simp] theorem ap_tup : fTup t sl cs = (t sl cs).bind fun vs cs1 => guard_ (fits vs.length) (.ok (.tup vs) cs1) := rfl
@[simp] theorem ap_lst : fLst t sl cs = (t sl cs).bind fun vs cs1 => guard_ (fits vs.length) (.ok (.lst vs) cs1) := rfl
@[simp] theorem ap_lstC : fLstC t sl cs = (t sl cs).bind fun vs cs1 => guard_ (fits vs.length) (.ok (.ref cs1.length) (cs1 ++ [.lst vs])) := rfl
@[simp] theorem ap_noPart : fNoPart sl cs = .ok none cs := rfl
@[simp] theorem ap_part : fPart f sl cs = (f sl cs).bind fun v cs1 => match v with | .int i => .ok (some i) cs1 | _ => .bad := rfl
@[simp] theorem ap_slc (lo hi : FO) : fSlc f lo hi sl cs = (f sl cs).bind fun x cs1 => (lo sl cs1).bind fun l cs2 => (hi sl cs2).bind fun h cs3 => oSlc x l h cs3 := rfl
@[simp] theorem ap_call (m : FN) : fCall m t sl cs = (t sl cs).bind fun vs cs1 => m vs cs1 := rfl
@[simp] theorem ap_meth (T : String) (m : FM) : fMeth T m o t sl cs = (o sl cs).bind fun ov cs1 => guard_ (tyIs T ov cs1) ((t sl cs1).bind fun vs cs2 => m ov vs cs2) := rfl
@[simp] theorem ap_meth0 (T : String) (m : FM) : fMeth0 T m o sl cs = (o sl cs).bind fun ov cs1 => guard_ (tyIs T ov cs1) (m ov [] cs1) := rfl
@[simp] theorem ap_yes : fYes sl cs = .ok true cs := rfl
@[simp] theorem ap_ret : sRet f sl cs = (f sl cs).go sl fun v cs1 => .rt v cs1 := rfl
@[simp] theorem ap_retN : sRetN sl cs = .rt .non cs := rfl
@[simp] theorem ap_expr : sExpr f sl cs = (f sl cs).go sl fun _ cs1 => .nx sl cs1 := rfl
@[simp] theorem ap_pass : sPass sl cs = .nx sl cs := rfl
@[simp] theorem ap_brk : sBrk sl cs = .bk sl cs := rfl
@[simp] theorem ap_cnt : sCnt sl cs = .ct sl cs := rfl
@[simp] theorem ap_seq : sSeq a b sl cs = (a sl cs).then b := rfl
@[simp] theorem ap_if : sIf c a b sl cs = (c sl cs).go sl fun q cs1 => if q = true then a sl cs1 else b sl cs1 := rfl
@[simp] theorem ap_asg (k : Nat) : sAsg k f sl cs = (f sl cs).go sl fun v cs1 => .nx (sl.set k (some v)) cs1 := rfl
@[simp] theorem ap_asgG (q : FG) : sAsgG q f sl cs = (f sl cs).go sl fun v cs1 => match q v sl cs1 with | some sl' => .nx sl' cs1 | none => .bad := rfl
@[simp] theorem ap_putIx : sPutIx o i f sl cs = (f sl cs).go sl fun v cs1 => (o sl cs1).go sl fun ov cs2 => (i sl cs2).go sl fun iv cs3 => match putIx ov iv v cs3 with | some cs4 => .nx sl cs4 | none => .bad := rfl
@[simp] theorem ap_aug (k : Nat) (q : F2) : sAug k q f sl cs = match sl[k]? with | some (some x) => (f sl cs).go sl fun y cs1 => (q x y cs1).go sl fun z cs2 => .nx (sl.set k (some z)) cs2 | _ => .bad := rfl
@[simp] theorem ap_par (k j : Nat) : sPar k j t sl cs = (t sl cs).go sl fun vs cs1 => match vs with | [v, w] => .nx ((sl.set k (some v)).set j (some w)) cs1 | _ => .bad := rfl
@[simp] theorem ap_par3 (k j l : Nat) : sPar3 k j l t sl cs = (t sl cs).go sl fun vs cs1 => match vs with | [u, v, w] => .nx (((sl.set k (some u)).set j (some v)).set l (some w)) cs1 | _ => .bad := rfl
@[simp] theorem ap_for (q : FG) (src : FI) : sFor q src b sl cs = (src sl cs).go sl fun s cs1 => forS (gTurn q b) s sl cs1 := rfl
@[simp] theorem ap_forS (body : Pv → FS) (ps : List Pv) : forS body (.fz ps) sl cs = forL body ps sl cs := rfl
@[simp] theorem ap_iSeq : iSeq f sl cs = (f sl cs).bind fun v cs1 => match srcOf cs1 v with | some s => .ok s cs1 | none => .bad := rfl
@[simp] theorem ap_iRange1 : iRange1 f sl cs = (f sl cs).bind fun v cs1 => match v with | .int j => guard_ (rngOk j) (.ok (.fz ((List.range j.toNat).map fun (k : Nat) => .int (k : Int))) cs1) | _ => .bad := rfl
@[simp] theorem ap_iZip : iZip f g sl cs = (f sl cs).bind fun x cs1 => (g sl cs1).bind fun y cs2 => match seqOf cs2 x, seqOf cs2 y with | some xs, some ys => if (isFz x && isFz y) = true then .ok (.fz (pairUp xs ys)) cs2 else .ok (.lv (zipIt x y)) cs2 | _, _ => .bad := rfl
@[simp] theorem ap_srcT (xs : List Pv) : srcOf cs (.tup xs) = some (.fz xs) := rfl
@[simp] theorem ap_srcL (xs : List Pv) : srcOf cs (.lst xs) = some (.fz xs) := rfl
@[simp] theorem ap_gN (k : Nat) (v : Pv) : gN k v sl cs = some (sl.set k (some v)) := rfl
@[simp] theorem ap_gT (n : Nat) (r : FGs) (xs : List Pv) : gT n r (.tup xs) sl cs = if xs.length = n then r xs sl cs else none := rfl
@[simp] theorem ap_gsNil : gsNil [] sl cs = some sl := rfl
@[simp] theorem ap_gsCons (q : FG) (r : FGs) (v : Pv) (vs : List Pv) : gsCons q r (v :: vs) sl cs = (q v sl cs).bind fun sl' => r vs sl' cs := rfl
@[simp] theorem ap_lcTurn (q : FG) (v : Pv) : lcTurn q c f sl v cs = match q v sl cs with | some sl2 => (noX (c sl2 cs)).bind fun b cs1 => if b = true then (noX (f sl2 cs1)).bind fun y cs2 => .ok (some y) cs2 else .ok none cs1 | none => .bad := rfl
@[simp] theorem ap_gTurn (q : FG) (v : Pv) : gTurn q b v sl cs = match q v sl cs with | some sl' => b sl' cs | none => .bad := rfl
@[simp] theorem ap_wipe0 : wipeS sl [] = sl := rfl
@[simp] theorem ap_wipe1 (k : Nat) (vs : List Nat) : wipeS sl (k :: vs) = (wipeS sl vs).set k none := rfl
end
/-! values -/
section
variable {cs : Cells}
@[simp] theorem v_addI (i j : Int) : oAdd (.int i) (.int j) cs = .ok (.int (i + j)) cs := rfl
@[simp] theorem v_addS (x y : Str) : oAdd (.str x) (.str y) cs = guard_ (fits (x.length + y.length)) (.ok (.str (x ++ y)) cs) := rfl
@[simp] theorem v_addL (x y : List Pv) : oAdd (.lst x) (.lst y) cs = guard_ (fits (x.length + y.length)) (.ok (.lst (x ++ y)) cs) := rfl
@[simp] theorem v_addT (x y : List Pv) : oAdd (.tup x) (.tup y) cs = guard_ (fits (x.length + y.length)) (.ok (.tup (x ++ y)) cs) := rfl
@[simp] theorem v_addII (i j : Int) : oAddI (.int i) (.int j) cs = .ok (.int (i + j)) cs := rfl
@[simp] theorem v_sub (i j : Int) : oSub (.int i) (.int j) cs = .ok (.int (i - j)) cs := rfl
@[simp] theorem v_mul (i j : Int) : oMul (.int i) (.int j) cs = guard_ (mulOk i j) (.ok (.int (i * j)) cs) := rfl
@[simp] theorem v_fdiv (i j : Int) : oFdiv (.int i) (.int j) cs = guard_ (fdivOk j) (.ok (.int (i.fdiv j)) cs) := rfl
@[simp] theorem v_mod (i j : Int) : oMod (.int i) (.int j) cs = guard_ (decide (j ≠ 0)) (.ok (.int (i.fmod j)) cs) := rfl
@[simp] theorem v_pow (i j : Int) : oPow (.int i) (.int j) cs = guard_ (powOk i j) (.ok (.int (i ^ j.toNat)) cs) := rfl
@[simp] theorem v_neg (i : Int) : oNeg (.int i) cs = .ok (.int (-i)) cs := rfl
@[simp] theorem v_cmp (p : Int → Int → Bool) (i j : Int) : oCmpI p (.int i) (.int j) cs = .ok (.bl (p i j)) cs := rfl
@[simp] theorem v_ixT (xs : List Pv) (i : Int) : oIx (.tup xs) (.int i) cs = match atI xs i with | some v => .ok v cs | none => .bad := rfl
@[simp] theorem v_ixL (xs : List Pv) (i : Int) : oIx (.lst xs) (.int i) cs = match atI xs i with | some v => .ok v cs | none => .bad := rfl
theorem v_ixC {k : Nat} {xs : List Pv} (h : cs[k]? = some (.lst xs)) (i : Int) : oIx (.ref k) (.int i) cs = match atI xs i with | some v => .ok v cs | none => .bad := by
  first
    | (simp [oIx, asL, h]; done)
    | (simp [oIx, asL, h]; rfl)
@[simp] theorem v_slcL (xs : List Pv) (lo hi : Option Int) : oSlc (.lst xs) lo hi cs = .ok (.lst (cut xs lo hi)) cs := rfl
@[simp] theorem v_slcT (xs : List Pv) (lo hi : Option Int) : oSlc (.tup xs) lo hi cs = .ok (.tup (cut xs lo hi)) cs := rfl
@[simp] theorem v_truB (b : Bool) : tru (.bl b) cs = .ok b cs := rfl
@[simp] theorem v_lenT (xs : List Pv) : mLen [.tup xs] cs = .ok (.int xs.length) cs := rfl
@[simp] theorem v_lenL (xs : List Pv) : mLen [.lst xs] cs = .ok (.int xs.length) cs := rfl
@[simp] theorem v_abs (i : Int) : mAbs [.int i] cs = .ok (.int (if i < 0 then -i else i)) cs := rfl
@[simp] theorem v_intI (i : Int) : mInt [.int i] cs = .ok (.int i) cs := rfl
@[simp] theorem v_intB (b : Bool) : mInt [.bl b] cs = .ok (.int (if b then 1 else 0)) cs := rfl
@[simp] theorem v_sum (ns : List Int) : mSum [.lst (ns.map Pv.int)] cs = .ok (.int ns.sum) cs := by simp [mSum, asL, intsOf_map]
@[simp] theorem v_tupleT (xs : List Pv) : mTuple [.tup xs] cs = .ok (.tup xs) cs := rfl
@[simp] theorem v_tupleL (xs : List Pv) : mTuple [.lst xs] cs = .ok (.tup xs) cs := rfl
@[simp] theorem v_listT (xs : List Pv) : mList [.tup xs] cs = .ok (.lst xs) cs := rfl
@[simp] theorem v_listL (xs : List Pv) : mList [.lst xs] cs = .ok (.lst xs) cs := rfl
/-- a datum is equal to itself -/
theorem v_neSelf {x : Pv} {d : PyData} (h : toPy (deref cs x) = some d) (hs : SeqAt.shaped d = true) : oNe x x cs = .ok (.bl false) cs := by
  simp [eqD, h, hs, SeqAt.eqv_refl d (SeqAt.canLay_of_shaped hs)]
theorem v_eqSelf {x : Pv} {d : PyData} (h : toPy (deref cs x) = some d) (hs : SeqAt.shaped d = true) : oEq x x cs = .ok (.bl true) cs := by
  simp [eqD, h, hs, SeqAt.eqv_refl d (SeqAt.canLay_of_shaped hs)]
@[simp] theorem v_eqI (i j : Int) : eqD false (.int i) (.int j) cs = .ok (.bl (i == j)) cs := rfl
@[simp] theorem v_neI (i j : Int) : eqD true (.int i) (.int j) cs = .ok (.bl (!(i == j))) cs := rfl
end
theorem range_ok {f : FE} {sl : Sl} {cs cs1 : Cells} {j : Int} (n : Nat) (hf : f sl cs = .ok (.int j) cs1) (hj : j = (n : Int)) (h : n ≤ 16777216) : iRange1 f sl cs = .ok (.fz ((List.range n).map fun (k : Nat) => .int (k : Int))) cs1 := by
  subst hj
  unfold iRange1
  rw [hf]
  simp only [Res.bind_ok, Int.toNat_natCast]
  rw [guard_of (rngOk.of (by omega) (by omega))]
/-! comprehensions over what is frozen -/
theorem lcL_mapG {α : Type} {turn : Pv → Cells → Res (Option Pv)} {f h : α → Pv} {cs : Cells} : ∀ (L : List α), (∀ o ∈ L, turn (f o) cs = .ok (some (h o)) cs) → lcL turn (L.map f) cs = .ok (L.map h) cs
  | [], _ => rfl
  | v :: vs, q => by
    simp [lcL, q v List.mem_cons_self, lcL_mapG vs fun u hu => q u (List.mem_cons_of_mem _ hu)]
theorem fLc_map {α : Type} {src : FI} {g : FG} {c : FT} {e : FE} {vs : List Nat} {sl : Sl} {cs : Cells} {L : List α} {f h : α → Pv} (hs : src sl cs = .ok (.fz (L.map f)) cs) (hf : L.length ≤ 16777216) (ht : ∀ o ∈ L, lcTurn g c e (wipeS sl vs) (f o) cs = .ok (some (h o)) cs) : fLc src g c e vs sl cs = .ok (.lst (L.map h)) cs := by
  have hl : fits (L.map f).length = true := decide_eq_true (by rw [List.length_map]; exact hf)
  simp [fLc, hs, lcS]
  rw [guard_of (by simpa using hl), lcL_mapG L ht]
  rfl
theorem lcL_some {turn : Pv → Cells → Res (Option Pv)} {P : Cells → Prop} {R : Pv → Prop} : ∀ (ps : List Pv) (cs : Cells), (∀ v ∈ ps, ∀ cs, P cs → ∃ y cs', turn v cs = .ok (some y) cs' ∧ R y ∧ P cs') → P cs →
    ∃ ys cs', lcL turn ps cs = .ok ys cs' ∧ ys.length = ps.length ∧ (∀ y ∈ ys, R y) ∧ P cs'
  | [], cs, _, p => ⟨[], cs, rfl, rfl, fun _ h => by simp at h, p⟩
  | v :: vs, cs, h, p => by
    obtain ⟨y, cs1, e1, r1, p1⟩ := h v List.mem_cons_self cs p
    obtain ⟨ys, cs2, e2, l2, r2, p2⟩ := lcL_some vs cs1 (fun u hu => h u (List.mem_cons_of_mem _ hu)) p1
    refine ⟨y :: ys, cs2, ?_, by simp [l2], fun u hu => ?_, p2⟩
    · simp [lcL, e1, e2]
    · rcases List.mem_cons.mp hu with e | e
      · rw [e]; exact r1
      · exact r2 u e
/-- each turn gives one item; P holds of the cells between the turns -/
theorem fLc_some {src : FI} {g : FG} {c : FT} {e : FE} {vs : List Nat} {sl : Sl} {cs cs0 : Cells} {ps : List Pv} {P : Cells → Prop} {R : Pv → Prop} (hs : src sl cs = .ok (.fz ps) cs0) (hf : ps.length ≤ 16777216)
    (ht : ∀ v ∈ ps, ∀ cs, P cs → ∃ y cs', lcTurn g c e (wipeS sl vs) v cs = .ok (some y) cs' ∧ R y ∧ P cs') (hp : P cs0) : ∃ ys cs', fLc src g c e vs sl cs = .ok (.lst ys) cs' ∧ ys.length = ps.length ∧ (∀ y ∈ ys, R y) ∧ P cs' := by
  obtain ⟨ys, cs1, e1, l1, r1, p1⟩ := lcL_some ps cs0 ht hp
  refine ⟨ys, cs1, ?_, l1, r1, p1⟩
  simp [fLc, hs, lcS]
  rw [guard_of (show fits ps.length = true from decide_eq_true hf), e1]
  rfl
/-! loops -/
theorem forL_inv {body : Pv → FS} {P : Sl → Cells → Prop} : ∀ (ps : List Pv) (sl : Sl) (cs : Cells), (∀ v ∈ ps, ∀ sl cs, P sl cs → ∃ sl' cs', body v sl cs = .nx sl' cs' ∧ P sl' cs') → P sl cs → ∃ sl' cs', forL body ps sl cs = .nx sl' cs' ∧ P sl' cs'
  | [], sl, cs, _, p => ⟨sl, cs, rfl, p⟩
  | v :: vs, sl, cs, h, p => by
    obtain ⟨sl1, cs1, e1, p1⟩ := h v List.mem_cons_self sl cs p
    obtain ⟨sl2, cs2, e2, p2⟩ := forL_inv vs sl1 cs1 (fun u hu => h u (List.mem_cons_of_mem _ hu)) p1
    exact ⟨sl2, cs2, by simp [forL, e1, e2], p2⟩
end AL

set_option Elab.async false
set_option linter.all false
set_option autoImplicit false
set_option maxRecDepth 100000
set_option maxHeartbeats 4000000
namespace AL
open PySem PySem.Spec PyProof.Rows L2
theorem noCX {P : Program} {w : World} {outer : List Env} {H : Hp} {s s' : Shared} {e : Value} (h : L2.CX P w outer H s (fun _ _ _ => False) e s') : False := by
  obtain ⟨_, _, _, _, _, _, _, _, _, _, _, _, z⟩ := h
  exact z
end AL
namespace Lw
open PySem PySem.Spec PyProof.Rows L2 AL
def topS (i : Nat) : Stmt := PySem.Challenge.pw_alwayslines_k36_tables_put_behind.main.body.getD i (.Pass ⟨0, 0, 0, 0⟩)
abbrev st_law_state : Stmt := topS 7
theorem sc_law_state : FnScope ["_law_cell"] ["_law_cell"] (defScope st_law_state) := ⟨rfl, rfl, rfl, by decide +kernel, rfl, by decide +kernel, by decide +kernel⟩
abbrev st_product_sum : Stmt := topS 1
theorem sc_product_sum : FnScope ["one", "other", "number", "factor"] ["one", "other"] (defScope st_product_sum) := ⟨rfl, rfl, rfl, by decide +kernel, rfl, by decide +kernel, by decide +kernel⟩
abbrev st_put_behind : Stmt := topS 4
theorem sc_put_behind : FnScope ["later", "table", "sides", "k", "row", "one", "side"] ["later", "table"] (defScope st_put_behind) := ⟨rfl, rfl, rfl, by decide +kernel, rfl, by decide +kernel, by decide +kernel⟩
abbrev st_law_digit : Stmt := topS 8
theorem sc_law_digit : FnScope ["_law_state_here", "_law_base", "_law_found", "_law_more"] ["_law_state_here", "_law_base"] (defScope st_law_digit) := ⟨rfl, rfl, rfl, by decide +kernel, rfl, by decide +kernel, by decide +kernel⟩
abbrev st_law_great : Stmt := topS 9
theorem sc_law_great : FnScope ["_law_s"] ["_law_s"] (defScope st_law_great) := ⟨rfl, rfl, rfl, by decide +kernel, rfl, by decide +kernel, by decide +kernel⟩
abbrev st_law_table : Stmt := topS 10
theorem sc_law_table : FnScope ["_law_s", "_law_length", "_law_j", "_law_k"] ["_law_s", "_law_length"] (defScope st_law_table) := ⟨rfl, rfl, rfl, by decide +kernel, rfl, by decide +kernel, by decide +kernel⟩
abbrev st_through : Stmt := topS 3
theorem sc_through : FnScope ["table", "row", "one"] ["table", "row"] (defScope st_through) := ⟨rfl, rfl, rfl, by decide +kernel, rfl, by decide +kernel, by decide +kernel⟩
abbrev st_law : Stmt := topS 11
theorem sc_law : FnScope ["_law_script", "_law_cell", "_law_s", "_law_length", "_law_first", "_law_then", "_law_last", "_law_row", "_law_due", "_law_both", "_law_k", "_law_one"] ["_law_script"] (defScope st_law) := ⟨rfl, rfl, rfl, by decide +kernel, rfl, by decide +kernel, by decide +kernel⟩
section
variable {P : Program} {w : World} {K : PySem.W.Frag} {mg : Str → Option Value} {base : Heap}
def body_law_state : FS := (sSeq (sAsg 0 (fCall mAbs (fCons (fVar 0) fNil)))
    (sRet (fLstC (fCons (f2 oMul (fVar 0) (fCall mInt (fCons (f2 oGe (fVar 0) (f2 oPow (fCon (.int 10)) (fCon (.int 18)))) fNil))) (fCons (f2 oAdd (f2 oMod (fCall mInt (fCons (fVar 0) fNil)) (fCon (.int 2147483629))) (fCon (.int 7))) (fCons (f2 oMod (fCall mInt (fCons (fVar 0) fNil)) (fCon (.int 2147483587))) fNil))))))
def m_law_state : FN := fnSem 1 1 body_law_state
theorem ok_law_state {f : Addr} {fd : FuncData} (F : Fun K "_law_state" "_law_state" st_law_state f fd) (m_abs : mg "abs" = none) (m_int : mg "int" = none) : FnOk P w K mg base (L2.CX P w) 1 f fd ["_law_cell"] (spOf K mg 1 m_law_state) :=
  fn_ok (k := 0) F sc_law_state fun cdv A outer s H E hr tk po => (ss_cons (s_asg sc_law_state.nd (b_callB call_abs ok_abs m_abs (by decide +kernel) (a_cons (b_var 0) a_nil)))
    (ss_one (s_ret (b_lstC (a_cons (b_bin op_mulG ok_mul (b_var 0) (b_callTy call_int1 ok_int m_int (by decide +kernel) (a_cons (b_cmp op_ge ok_cmpI (b_var 0) (b_bin op_pow ok_pow b_int b_int)) a_nil))) (a_cons (b_bin op_addA ok_add (b_bin op_modN ok_mod (b_callTy call_int1 ok_int m_int (by decide +kernel) (a_cons (b_var 0) a_nil)) b_int) b_int) (a_cons (b_bin op_modN ok_mod (b_callTy call_int1 ok_int m_int (by decide +kernel) (a_cons (b_var 0) a_nil)) b_int) a_nil)))))))
def body_product_sum : FS := (sRet (fCall mSum (fCons (fLc (iZip (fVar 0) (fVar 1)) (gT 2 (gsCons (gN 2) (gsCons (gN 3) gsNil))) fYes (f2 oMul (fVar 2) (fVar 3)) [2, 3]) fNil)))
def m_product_sum : FN := fnSem 2 4 body_product_sum
theorem ok_product_sum {f : Addr} {fd : FuncData} (F : Fun K "product_sum" "product_sum" st_product_sum f fd) (m_sum : mg "sum" = none) (m_zip : mg "zip" = none) : FnOk P w K mg base (L2.CX P w) 1 f fd ["one", "other"] (spOf K mg 2 m_product_sum) :=
  fn_ok (k := 0) F sc_product_sum fun cdv A outer s H E hr tk po => (ss_one (s_ret (b_callB (cr_sum rfl) ok_sum m_sum (by decide +kernel) (a_cons (b_lc rfl sc_product_sum.nd (blkOk_by (own := [("number", 2), ("factor", 3)]) (by kernel_rfl)) (i_zip m_zip (b_var 0) (b_var 1)) (fun _ _ _ _ _ => (g_tup rfl (gs_cons (g_name sc_product_sum.nd) (gs_cons (g_name sc_product_sum.nd) gs_nil)))) (fun _ _ _ _ _ => ts_nil) (fun _ _ _ _ _ => (b_bin op_mulG ok_mul (b_var 2) (b_var 3)))) a_nil))))
def body_put_behind : FS := (sSeq (sAsg 2 (fLc (iRange1 (fCall mLen (fCons (fVar 1) fNil))) (gN 3) fYes (fLc (iSeq (fVar 1)) (gN 4) fYes (f2 oIx (fVar 4) (fVar 3)) [4]) [3]))
    (sRet (fCall mTuple (fCons (fLc (iSeq (fVar 0)) (gN 5) fYes (fCall mTuple (fCons (fLc (iSeq (fVar 2)) (gN 6) fYes (fCall m_product_sum (fCons (fVar 5) (fCons (fVar 6) fNil))) [6]) fNil)) [5]) fNil))))
def m_put_behind : FN := fnSem 2 7 body_put_behind
theorem ok_put_behind {f : Addr} {fd : FuncData} (F : Fun K "put_behind" "put_behind" st_put_behind f fd) {f_product_sum : Addr} {fd_product_sum : FuncData} (F_product_sum : FnOk P w K mg base (L2.CX P w) 1 f_product_sum fd_product_sum ["one", "other"] (spOf K mg 2 m_product_sum)) (g_product_sum : mg "product_sum" = some (.ref f_product_sum)) (k_product_sum : PySem.W.keepIn K (.ref f_product_sum) = true) (b_product_sum : Binds K fd_product_sum ["one", "other"] []) (m_tuple : mg "tuple" = none) (m_range : mg "range" = none) (m_len : mg "len" = none) : FnOk P w K mg base (L2.CX P w) 2 f fd ["later", "table"] (spOf K mg 2 m_put_behind) :=
  fn_ok (k := 1) F sc_put_behind fun cdv A outer s H E hr tk po => (ss_cons (s_asg sc_put_behind.nd (b_lc rfl sc_put_behind.nd (blkOk_by (own := [("k", 3)]) (by kernel_rfl)) (i_range1 m_range (b_callB call_len ok_len m_len (by decide +kernel) (a_cons (b_var 1) a_nil))) (fun _ _ _ _ _ => (g_name sc_put_behind.nd)) (fun _ _ _ _ _ => ts_nil) (fun _ _ _ _ _ => (b_lc rfl sc_put_behind.nd (blkOk_by (own := [("row", 4)]) (by kernel_rfl)) (i_seq (b_var 1)) (fun _ _ _ _ _ => (g_name sc_put_behind.nd)) (fun _ _ _ _ _ => ts_nil) (fun _ _ _ _ _ => (b_ix (b_var 4) (b_var 3)))))))
    (ss_one (s_ret (b_callTy call_tuple_of ok_tuple m_tuple (by decide +kernel) (a_cons (b_lc rfl sc_put_behind.nd (blkOk_by (own := [("one", 5)]) (by kernel_rfl)) (i_seq (b_var 0)) (fun _ _ _ _ _ => (g_name sc_put_behind.nd)) (fun _ _ _ _ _ => ts_nil) (fun _ _ _ _ _ => (b_callTy call_tuple_of ok_tuple m_tuple (by decide +kernel) (a_cons (b_lc rfl sc_put_behind.nd (blkOk_by (own := [("side", 6)]) (by kernel_rfl)) (i_seq (b_var 2)) (fun _ _ _ _ _ => (g_name sc_put_behind.nd)) (fun _ _ _ _ _ => ts_nil) (fun _ _ _ _ _ => (b_call F_product_sum (hr.mono (by decide)) g_product_sum k_product_sum b_product_sum takesB (a_cons (b_var 5) (a_cons (b_var 6) a_nil)) (len_cons (len_cons len_nil))))) a_nil)))) a_nil)))))
def body_law_digit : FS := (sSeq (sIf (fTst (f2 oGt (f2 oIx (fVar 0) (fCon (.int 0))) (fCon (.int 0)))) (sSeq (sAsg 2 (f2 oMod (fCall mInt (fCons (f2 oIx (fVar 0) (fCon (.int 0))) fNil)) (fVar 1)))
    (sSeq (sPutIx (fVar 0) (fCon (.int 0)) (f2 oFdiv (f2 oIx (fVar 0) (fCon (.int 0))) (fVar 1)))
    (sRet (fVar 2)))) sPass)
    (sSeq (sAsg 3 (f2 oMul (f2 oIx (fVar 0) (fCon (.int 1))) (f2 oAdd (f2 oFdiv (f2 oIx (fVar 0) (fCon (.int 1))) (fCon (.int 1009))) (fCon (.int 69621)))))
    (sSeq (sPutIx (fVar 0) (fCon (.int 1)) (f2 oAdd (f2 oMod (fCall mInt (fCons (f2 oAdd (fVar 3) (f2 oIx (fVar 0) (fCon (.int 2)))) fNil)) (fCon (.int 2147483629))) (fCon (.int 7))))
    (sRet (f2 oMod (fCall mInt (fCons (f2 oFdiv (f2 oIx (fVar 0) (fCon (.int 1))) (fCon (.int 97))) fNil)) (fVar 1))))))
def m_law_digit : FN := fnSem 2 4 body_law_digit
theorem ok_law_digit {f : Addr} {fd : FuncData} (F : Fun K "_law_digit" "_law_digit" st_law_digit f fd) (m_int : mg "int" = none) : FnOk P w K mg base (L2.CX P w) 1 f fd ["_law_state_here", "_law_base"] (spOf K mg 2 m_law_digit) :=
  fn_ok (k := 0) F sc_law_digit fun cdv A outer s H E hr tk po => (ss_cons (s_if (t_cmp op_gt ok_cmpI (b_ix (b_var 0) b_int) b_int) (ss_cons (s_asg sc_law_digit.nd (b_bin op_modN ok_mod (b_callTy call_int1 ok_int m_int (by decide +kernel) (a_cons (b_ix (b_var 0) b_int) a_nil)) (b_var 1)))
    (ss_cons (s_putIx (b_bin op_fdivG ok_fdiv (b_ix (b_var 0) b_int) (b_var 1)) (b_var 0) b_int)
    (ss_one (s_ret (b_var 2))))) ss_nil)
    (ss_cons (s_asg sc_law_digit.nd (b_bin op_mulG ok_mul (b_ix (b_var 0) b_int) (b_bin op_addA ok_add (b_bin op_fdivG ok_fdiv (b_ix (b_var 0) b_int) b_int) b_int)))
    (ss_cons (s_putIx (b_bin op_addA ok_add (b_bin op_modN ok_mod (b_callTy call_int1 ok_int m_int (by decide +kernel) (a_cons (b_bin op_addA ok_add (b_var 3) (b_ix (b_var 0) b_int)) a_nil)) b_int) b_int) (b_var 0) b_int)
    (ss_one (s_ret (b_bin op_modN ok_mod (b_callTy call_int1 ok_int m_int (by decide +kernel) (a_cons (b_bin op_fdivG ok_fdiv (b_ix (b_var 0) b_int) b_int) a_nil)) (b_var 1)))))))
def body_law_great : FS := (sRet (f2 oIx (fLst (fCons (f2 oSub (fCall m_law_digit (fCons (fVar 0) (fCons (fCon (.int 7)) fNil))) (fCon (.int 3))) (fCons (f2 oSub (fCall m_law_digit (fCons (fVar 0) (fCons (fCon (.int 7)) fNil))) (fCon (.int 3))) (fCons (f2 oMul (f2 oSub (fCall m_law_digit (fCons (fVar 0) (fCons (f2 oPow (fCon (.int 10)) (fCon (.int 9))) fNil))) (fCon (.int 4))) (f2 oPow (fCon (.int 10)) (fCon (.int 12)))) fNil)))) (fCall m_law_digit (fCons (fVar 0) (fCons (fCon (.int 3)) fNil)))))
def m_law_great : FN := fnSem 1 1 body_law_great
theorem ok_law_great {f : Addr} {fd : FuncData} (F : Fun K "_law_great" "_law_great" st_law_great f fd) {f_law_digit : Addr} {fd_law_digit : FuncData} (F_law_digit : FnOk P w K mg base (L2.CX P w) 1 f_law_digit fd_law_digit ["_law_state_here", "_law_base"] (spOf K mg 2 m_law_digit)) (g_law_digit : mg "_law_digit" = some (.ref f_law_digit)) (k_law_digit : PySem.W.keepIn K (.ref f_law_digit) = true) (b_law_digit : Binds K fd_law_digit ["_law_state_here", "_law_base"] []) : FnOk P w K mg base (L2.CX P w) 2 f fd ["_law_s"] (spOf K mg 1 m_law_great) :=
  fn_ok (k := 1) F sc_law_great fun cdv A outer s H E hr tk po => (ss_one (s_ret (b_ix (b_lst (a_cons (b_bin op_sub ok_sub (b_call F_law_digit (hr.mono (by decide)) g_law_digit k_law_digit b_law_digit tk (a_cons (b_var 0) (a_cons b_int a_nil)) (len_cons (len_cons len_nil))) b_int) (a_cons (b_bin op_sub ok_sub (b_call F_law_digit (hr.mono (by decide)) g_law_digit k_law_digit b_law_digit tk (a_cons (b_var 0) (a_cons b_int a_nil)) (len_cons (len_cons len_nil))) b_int) (a_cons (b_bin op_mulG ok_mul (b_bin op_sub ok_sub (b_call F_law_digit (hr.mono (by decide)) g_law_digit k_law_digit b_law_digit tk (a_cons (b_var 0) (a_cons (b_bin op_pow ok_pow b_int b_int) a_nil)) (len_cons (len_cons len_nil))) b_int) (b_bin op_pow ok_pow b_int b_int)) a_nil)))) (b_call F_law_digit (hr.mono (by decide)) g_law_digit k_law_digit b_law_digit tk (a_cons (b_var 0) (a_cons b_int a_nil)) (len_cons (len_cons len_nil))))))
def body_law_table : FS := (sRet (fCall mTuple (fCons (fLc (iRange1 (fVar 1)) (gN 2) fYes (fCall mTuple (fCons (fLc (iRange1 (fVar 1)) (gN 3) fYes (fCall m_law_great (fCons (fVar 0) fNil)) [3]) fNil)) [2]) fNil)))
def m_law_table : FN := fnSem 2 4 body_law_table
theorem ok_law_table {f : Addr} {fd : FuncData} (F : Fun K "_law_table" "_law_table" st_law_table f fd) {f_law_great : Addr} {fd_law_great : FuncData} (F_law_great : FnOk P w K mg base (L2.CX P w) 2 f_law_great fd_law_great ["_law_s"] (spOf K mg 1 m_law_great)) (g_law_great : mg "_law_great" = some (.ref f_law_great)) (k_law_great : PySem.W.keepIn K (.ref f_law_great) = true) (b_law_great : Binds K fd_law_great ["_law_s"] []) (m_tuple : mg "tuple" = none) (m_range : mg "range" = none) : FnOk P w K mg base (L2.CX P w) 3 f fd ["_law_s", "_law_length"] (spOf K mg 2 m_law_table) :=
  fn_ok (k := 2) F sc_law_table fun cdv A outer s H E hr tk po => (ss_one (s_ret (b_callTy call_tuple_of ok_tuple m_tuple (by decide +kernel) (a_cons (b_lc rfl sc_law_table.nd (blkOk_by (own := [("_law_j", 2)]) (by kernel_rfl)) (i_range1 m_range (b_var 1)) (fun _ _ _ _ _ => (g_name sc_law_table.nd)) (fun _ _ _ _ _ => ts_nil) (fun _ _ _ _ _ => (b_callTy call_tuple_of ok_tuple m_tuple (by decide +kernel) (a_cons (b_lc rfl sc_law_table.nd (blkOk_by (own := [("_law_k", 3)]) (by kernel_rfl)) (i_range1 m_range (b_var 1)) (fun _ _ _ _ _ => (g_name sc_law_table.nd)) (fun _ _ _ _ _ => ts_nil) (fun _ _ _ _ _ => (b_call F_law_great (hr.mono (by decide)) g_law_great k_law_great b_law_great takesB (a_cons (b_var 0) a_nil) (len_cons len_nil)))) a_nil)))) a_nil))))
def body_through : FS := (sRet (fCall mTuple (fCons (fLc (iSeq (fVar 0)) (gN 2) fYes (fCall m_product_sum (fCons (fVar 2) (fCons (fVar 1) fNil))) [2]) fNil)))
def m_through : FN := fnSem 2 3 body_through
theorem ok_through {f : Addr} {fd : FuncData} (F : Fun K "through" "through" st_through f fd) {f_product_sum : Addr} {fd_product_sum : FuncData} (F_product_sum : FnOk P w K mg base (L2.CX P w) 1 f_product_sum fd_product_sum ["one", "other"] (spOf K mg 2 m_product_sum)) (g_product_sum : mg "product_sum" = some (.ref f_product_sum)) (k_product_sum : PySem.W.keepIn K (.ref f_product_sum) = true) (b_product_sum : Binds K fd_product_sum ["one", "other"] []) (m_tuple : mg "tuple" = none) : FnOk P w K mg base (L2.CX P w) 2 f fd ["table", "row"] (spOf K mg 2 m_through) :=
  fn_ok (k := 1) F sc_through fun cdv A outer s H E hr tk po => (ss_one (s_ret (b_callTy call_tuple_of ok_tuple m_tuple (by decide +kernel) (a_cons (b_lc rfl sc_through.nd (blkOk_by (own := [("one", 2)]) (by kernel_rfl)) (i_seq (b_var 0)) (fun _ _ _ _ _ => (g_name sc_through.nd)) (fun _ _ _ _ _ => ts_nil) (fun _ _ _ _ _ => (b_call F_product_sum (hr.mono (by decide)) g_product_sum k_product_sum b_product_sum takesB (a_cons (b_var 2) (a_cons (b_var 1) a_nil)) (len_cons (len_cons len_nil))))) a_nil))))
def body_law_1 : FS := (sSeq (sAsg 2 (fCall m_law_state (fCons (fVar 1) fNil)))
    (sSeq (sAsg 3 (f2 oAdd (fCon (.int 1)) (fCall m_law_digit (fCons (fVar 2) (fCons (fCon (.int 6)) fNil)))))
    (sSeq (sPar3 4 5 6 (fCons (fCall m_law_table (fCons (fVar 2) (fCons (fVar 3) fNil))) (fCons (fCall m_law_table (fCons (fVar 2) (fCons (fVar 3) fNil))) (fCons (fCall m_law_table (fCons (fVar 2) (fCons (fVar 3) fNil))) fNil))))
    (sSeq (sAsg 7 (fCall mTuple (fCons (fLc (iRange1 (fVar 3)) (gN 10) fYes (fCall m_law_great (fCons (fVar 2) fNil)) [10]) fNil)))
    (sSeq (sAsg 8 (fCall mTuple (fCons (fLc (iSeq (fVar 4)) (gN 11) fYes (fCall mSum (fCons (fLc (iRange1 (fVar 3)) (gN 10) fYes (f2 oMul (f2 oIx (fVar 11) (fVar 10)) (f2 oIx (fVar 7) (fVar 10))) [10]) fNil)) [11]) fNil)))
    (sSeq (sAsg 9 (fCall m_put_behind (fCons (fVar 5) (fCons (fVar 4) fNil))))
    (sSeq (sIf (fOr (fTst (f2 oNe (fCall m_through (fCons (fVar 4) (fCons (fVar 7) fNil))) (fVar 8))) (fTst (f2 oNe (fCall m_through (fCons (fVar 9) (fCons (fVar 7) fNil))) (fCall m_through (fCons (fVar 5) (fCons (fVar 8) fNil)))))) (sRet (fCon (.bl false))) sPass)
    (sSeq (sIf (fTst (f2 oNe (fCall m_put_behind (fCons (fVar 6) (fCons (fVar 9) fNil))) (fCall m_put_behind (fCons (fCall m_put_behind (fCons (fVar 6) (fCons (fVar 5) fNil))) (fCons (fVar 4) fNil))))) (sRet (fCon (.bl false))) sPass)
    (sSeq (sIf (fOr (fNot (fTru (fCall mIsB (fCons (fVar 9) (fCons (fCon (.ty "tuple")) fNil))))) (fOr (fNot (fTru (fCall mIsB (fCons (f2 oIx (fVar 9) (fCon (.int 0))) (fCons (fCon (.ty "tuple")) fNil))))) (fTst (f2 oNe (fCall mLen (fCons (fVar 9) fNil)) (fVar 3))))) (sRet (fCon (.bl false))) sPass)
    (sIf (fTst (f2 oNe (fCall m_through (fCons (fVar 4) (fCons (fCall mList (fCons (fVar 7) fNil)) fNil))) (fVar 8))) (sRet (fCon (.bl false))) sPass))))))))))
def body_law : FS := (sSeq (sFor (gN 1) (iSeq (fSlc (f2 oAdd (fVar 0) (fLst (fCons (fCon (.int 0)) fNil))) fNoPart (fPart (fCon (.int 10))))) body_law_1)
    (sRet (fCon (.bl true))))
def m_law : FN := fnSem 1 12 body_law
theorem ok_law {f : Addr} {fd : FuncData} (F : Fun K "law" "law" st_law f fd) {f_law_state : Addr} {fd_law_state : FuncData} (F_law_state : FnOk P w K mg base (L2.CX P w) 1 f_law_state fd_law_state ["_law_cell"] (spOf K mg 1 m_law_state)) (g_law_state : mg "_law_state" = some (.ref f_law_state)) (k_law_state : PySem.W.keepIn K (.ref f_law_state) = true) (b_law_state : Binds K fd_law_state ["_law_cell"] []) {f_put_behind : Addr} {fd_put_behind : FuncData} (F_put_behind : FnOk P w K mg base (L2.CX P w) 2 f_put_behind fd_put_behind ["later", "table"] (spOf K mg 2 m_put_behind)) (g_put_behind : mg "put_behind" = some (.ref f_put_behind)) (k_put_behind : PySem.W.keepIn K (.ref f_put_behind) = true) (b_put_behind : Binds K fd_put_behind ["later", "table"] []) {f_law_digit : Addr} {fd_law_digit : FuncData} (F_law_digit : FnOk P w K mg base (L2.CX P w) 1 f_law_digit fd_law_digit ["_law_state_here", "_law_base"] (spOf K mg 2 m_law_digit)) (g_law_digit : mg "_law_digit" = some (.ref f_law_digit)) (k_law_digit : PySem.W.keepIn K (.ref f_law_digit) = true) (b_law_digit : Binds K fd_law_digit ["_law_state_here", "_law_base"] []) {f_law_table : Addr} {fd_law_table : FuncData} (F_law_table : FnOk P w K mg base (L2.CX P w) 3 f_law_table fd_law_table ["_law_s", "_law_length"] (spOf K mg 2 m_law_table)) (g_law_table : mg "_law_table" = some (.ref f_law_table)) (k_law_table : PySem.W.keepIn K (.ref f_law_table) = true) (b_law_table : Binds K fd_law_table ["_law_s", "_law_length"] []) {f_through : Addr} {fd_through : FuncData} (F_through : FnOk P w K mg base (L2.CX P w) 2 f_through fd_through ["table", "row"] (spOf K mg 2 m_through)) (g_through : mg "through" = some (.ref f_through)) (k_through : PySem.W.keepIn K (.ref f_through) = true) (b_through : Binds K fd_through ["table", "row"] []) {f_law_great : Addr} {fd_law_great : FuncData} (F_law_great : FnOk P w K mg base (L2.CX P w) 2 f_law_great fd_law_great ["_law_s"] (spOf K mg 1 m_law_great)) (g_law_great : mg "_law_great" = some (.ref f_law_great)) (k_law_great : PySem.W.keepIn K (.ref f_law_great) = true) (b_law_great : Binds K fd_law_great ["_law_s"] []) (m_tuple : mg "tuple" = none) (m_sum : mg "sum" = none) (m_isinstance : mg "isinstance" = none) (m_len : mg "len" = none) (m_list : mg "list" = none) (m_range : mg "range" = none) : FnOk P w K mg base (L2.CX P w) 4 f fd ["_law_script"] (spOf K mg 1 m_law) :=
  fn_ok (k := 3) F sc_law fun cdv A outer s H E hr tk po => (ss_cons (s_for (vs := [1]) po rfl (i_seq (b_slc (b_bin op_addA ok_add (b_var 0) (b_lst (a_cons b_int a_nil))) o_none (o_some b_int))) (g_name sc_law.nd) (ss_cons (s_asg sc_law.nd (b_call F_law_state (hr.mono (by decide)) g_law_state k_law_state b_law_state tk (a_cons (b_var 1) a_nil) (len_cons len_nil)))
    (ss_cons (s_asg sc_law.nd (b_bin op_addA ok_add b_int (b_call F_law_digit (hr.mono (by decide)) g_law_digit k_law_digit b_law_digit tk (a_cons (b_var 2) (a_cons b_int a_nil)) (len_cons (len_cons len_nil)))))
    (ss_cons (s_par3 rfl sc_law.nd (a_cons (b_call F_law_table (hr.mono (by decide)) g_law_table k_law_table b_law_table tk (a_cons (b_var 2) (a_cons (b_var 3) a_nil)) (len_cons (len_cons len_nil))) (a_cons (b_call F_law_table (hr.mono (by decide)) g_law_table k_law_table b_law_table tk (a_cons (b_var 2) (a_cons (b_var 3) a_nil)) (len_cons (len_cons len_nil))) (a_cons (b_call F_law_table (hr.mono (by decide)) g_law_table k_law_table b_law_table tk (a_cons (b_var 2) (a_cons (b_var 3) a_nil)) (len_cons (len_cons len_nil))) a_nil))))
    (ss_cons (s_asg sc_law.nd (b_callTy call_tuple_of ok_tuple m_tuple (by decide +kernel) (a_cons (b_lc rfl sc_law.nd (blkOk_by (own := [("_law_k", 10)]) (by kernel_rfl)) (i_range1 m_range (b_var 3)) (fun _ _ _ _ _ => (g_name sc_law.nd)) (fun _ _ _ _ _ => ts_nil) (fun _ _ _ _ _ => (b_call F_law_great (hr.mono (by decide)) g_law_great k_law_great b_law_great takesB (a_cons (b_var 2) a_nil) (len_cons len_nil)))) a_nil)))
    (ss_cons (s_asg sc_law.nd (b_callTy call_tuple_of ok_tuple m_tuple (by decide +kernel) (a_cons (b_lc rfl sc_law.nd (blkOk_by (own := [("_law_one", 11)]) (by kernel_rfl)) (i_seq (b_var 4)) (fun _ _ _ _ _ => (g_name sc_law.nd)) (fun _ _ _ _ _ => ts_nil) (fun _ _ _ _ _ => (b_callB (cr_sum rfl) ok_sum m_sum (by decide +kernel) (a_cons (b_lc rfl sc_law.nd (blkOk_by (own := [("_law_k", 10)]) (by kernel_rfl)) (i_range1 m_range (b_var 3)) (fun _ _ _ _ _ => (g_name sc_law.nd)) (fun _ _ _ _ _ => ts_nil) (fun _ _ _ _ _ => (b_bin op_mulG ok_mul (b_ix (b_var 11) (b_var 10)) (b_ix (b_var 7) (b_var 10))))) a_nil)))) a_nil)))
    (ss_cons (s_asg sc_law.nd (b_call F_put_behind (hr.mono (by decide)) g_put_behind k_put_behind b_put_behind tk (a_cons (b_var 5) (a_cons (b_var 4) a_nil)) (len_cons (len_cons len_nil))))
    (ss_cons (s_if (PW.pt (w_or (t_cmp (op_neD hr.units) ok_neD (b_call F_through (hr.mono (by decide)) g_through k_through b_through tk (a_cons (b_var 4) (a_cons (b_var 7) a_nil)) (len_cons (len_cons len_nil))) (b_var 8)) (w_or1 (t_cmp (op_neD hr.units) ok_neD (b_call F_through (hr.mono (by decide)) g_through k_through b_through tk (a_cons (b_var 9) (a_cons (b_var 7) a_nil)) (len_cons (len_cons len_nil))) (b_call F_through (hr.mono (by decide)) g_through k_through b_through tk (a_cons (b_var 5) (a_cons (b_var 8) a_nil)) (len_cons (len_cons len_nil))))))) (ss_one (s_ret b_bl)) ss_nil)
    (ss_cons (s_if (t_cmp (op_neD hr.units) ok_neD (b_call F_put_behind (hr.mono (by decide)) g_put_behind k_put_behind b_put_behind tk (a_cons (b_var 6) (a_cons (b_var 9) a_nil)) (len_cons (len_cons len_nil))) (b_call F_put_behind (hr.mono (by decide)) g_put_behind k_put_behind b_put_behind tk (a_cons (b_call F_put_behind (hr.mono (by decide)) g_put_behind k_put_behind b_put_behind tk (a_cons (b_var 6) (a_cons (b_var 5) a_nil)) (len_cons (len_cons len_nil))) (a_cons (b_var 4) a_nil)) (len_cons (len_cons len_nil)))) (ss_one (s_ret b_bl)) ss_nil)
    (ss_cons (s_if (PW.pt (w_or (t_not (t_val (b_callB call_isi ok_isB m_isinstance (by decide +kernel) (a_cons (b_var 9) (a_cons (b_ty m_tuple (by decide +kernel)) a_nil))))) (w_or (t_not (t_val (b_callB call_isi ok_isB m_isinstance (by decide +kernel) (a_cons (b_ix (b_var 9) b_int) (a_cons (b_ty m_tuple (by decide +kernel)) a_nil))))) (w_or1 (t_cmp (op_neD hr.units) ok_neD (b_callB call_len ok_len m_len (by decide +kernel) (a_cons (b_var 9) a_nil)) (b_var 3)))))) (ss_one (s_ret b_bl)) ss_nil)
    (ss_one (s_if (t_cmp (op_neD hr.units) ok_neD (b_call F_through (hr.mono (by decide)) g_through k_through b_through tk (a_cons (b_var 4) (a_cons (b_callTy call_list_of ok_list m_list (by decide +kernel) (a_cons (b_var 7) a_nil)) a_nil)) (len_cons (len_cons len_nil))) (b_var 8)) (ss_one (s_ret b_bl)) ss_nil))))))))))))
    (ss_one (s_ret b_bl)))
end
/-! what the top has left -/
def spLaw (K : PySem.W.Frag) : Sp := fun vs H Q _ => ∃ (a : Addr) (ns : List Int), vs = [.ref a] ∧ SqL K H a (ns.map V.int) ∧ ns.length ≤ 63 ∧ (∀ z ∈ ns, Builtin.Int.intBits z ≤ 1048576) ∧ ∀ H', Q (.bl true) H'
theorem all_mk (lawT : ∀ ns : List Int, ns.length ≤ 63 → (∀ z ∈ ns, Builtin.Int.intBits z ≤ 1048576) → ∃ cs, m_law [.lst (ns.map Pv.int)] [] = .ok (.bl true) cs) {P : Program} {w : World} {K : PySem.W.Frag} {h : Heap} {mg : Str → Option Value} {fa : Addr} (X : K.In h) (G : h.Ns mainGlobals mg) (hfa : mg "law" = some (.ref fa))
    {f_law_state : Addr} {od_law_state an_law_state : Option Addr} {sl_law_state : Array (Option Value)} {oc_law_state kV_law_state dc_law_state pm_law_state cd_law_state ct_law_state : Value} (a_law_state : PySem.W.nsIn K mainGlobals "_law_state" = some (some (.ref f_law_state))) (l_law_state : K.lookup f_law_state = some ⟨oc_law_state, od_law_state, .func (PySem.W.fnOf "_law_state" "_law_state" (defArgs st_law_state) (defBody st_law_state) (defScope st_law_state) .none kV_law_state dc_law_state pm_law_state an_law_state cd_law_state ct_law_state), sl_law_state⟩) (c_law_state : PySem.W.codeIn K cd_law_state "_law_state" = true) (k_law_state : PySem.W.keepIn K (.ref f_law_state) = true)
    {f_product_sum : Addr} {od_product_sum an_product_sum : Option Addr} {sl_product_sum : Array (Option Value)} {oc_product_sum kV_product_sum dc_product_sum pm_product_sum cd_product_sum ct_product_sum : Value} (a_product_sum : PySem.W.nsIn K mainGlobals "product_sum" = some (some (.ref f_product_sum))) (l_product_sum : K.lookup f_product_sum = some ⟨oc_product_sum, od_product_sum, .func (PySem.W.fnOf "product_sum" "product_sum" (defArgs st_product_sum) (defBody st_product_sum) (defScope st_product_sum) .none kV_product_sum dc_product_sum pm_product_sum an_product_sum cd_product_sum ct_product_sum), sl_product_sum⟩) (c_product_sum : PySem.W.codeIn K cd_product_sum "product_sum" = true) (k_product_sum : PySem.W.keepIn K (.ref f_product_sum) = true)
    {f_put_behind : Addr} {od_put_behind an_put_behind : Option Addr} {sl_put_behind : Array (Option Value)} {oc_put_behind kV_put_behind dc_put_behind pm_put_behind cd_put_behind ct_put_behind : Value} (a_put_behind : PySem.W.nsIn K mainGlobals "put_behind" = some (some (.ref f_put_behind))) (l_put_behind : K.lookup f_put_behind = some ⟨oc_put_behind, od_put_behind, .func (PySem.W.fnOf "put_behind" "put_behind" (defArgs st_put_behind) (defBody st_put_behind) (defScope st_put_behind) .none kV_put_behind dc_put_behind pm_put_behind an_put_behind cd_put_behind ct_put_behind), sl_put_behind⟩) (c_put_behind : PySem.W.codeIn K cd_put_behind "put_behind" = true) (k_put_behind : PySem.W.keepIn K (.ref f_put_behind) = true)
    {f_law_digit : Addr} {od_law_digit an_law_digit : Option Addr} {sl_law_digit : Array (Option Value)} {oc_law_digit kV_law_digit dc_law_digit pm_law_digit cd_law_digit ct_law_digit : Value} (a_law_digit : PySem.W.nsIn K mainGlobals "_law_digit" = some (some (.ref f_law_digit))) (l_law_digit : K.lookup f_law_digit = some ⟨oc_law_digit, od_law_digit, .func (PySem.W.fnOf "_law_digit" "_law_digit" (defArgs st_law_digit) (defBody st_law_digit) (defScope st_law_digit) .none kV_law_digit dc_law_digit pm_law_digit an_law_digit cd_law_digit ct_law_digit), sl_law_digit⟩) (c_law_digit : PySem.W.codeIn K cd_law_digit "_law_digit" = true) (k_law_digit : PySem.W.keepIn K (.ref f_law_digit) = true)
    {f_law_great : Addr} {od_law_great an_law_great : Option Addr} {sl_law_great : Array (Option Value)} {oc_law_great kV_law_great dc_law_great pm_law_great cd_law_great ct_law_great : Value} (a_law_great : PySem.W.nsIn K mainGlobals "_law_great" = some (some (.ref f_law_great))) (l_law_great : K.lookup f_law_great = some ⟨oc_law_great, od_law_great, .func (PySem.W.fnOf "_law_great" "_law_great" (defArgs st_law_great) (defBody st_law_great) (defScope st_law_great) .none kV_law_great dc_law_great pm_law_great an_law_great cd_law_great ct_law_great), sl_law_great⟩) (c_law_great : PySem.W.codeIn K cd_law_great "_law_great" = true) (k_law_great : PySem.W.keepIn K (.ref f_law_great) = true)
    {f_law_table : Addr} {od_law_table an_law_table : Option Addr} {sl_law_table : Array (Option Value)} {oc_law_table kV_law_table dc_law_table pm_law_table cd_law_table ct_law_table : Value} (a_law_table : PySem.W.nsIn K mainGlobals "_law_table" = some (some (.ref f_law_table))) (l_law_table : K.lookup f_law_table = some ⟨oc_law_table, od_law_table, .func (PySem.W.fnOf "_law_table" "_law_table" (defArgs st_law_table) (defBody st_law_table) (defScope st_law_table) .none kV_law_table dc_law_table pm_law_table an_law_table cd_law_table ct_law_table), sl_law_table⟩) (c_law_table : PySem.W.codeIn K cd_law_table "_law_table" = true) (k_law_table : PySem.W.keepIn K (.ref f_law_table) = true)
    {f_through : Addr} {od_through an_through : Option Addr} {sl_through : Array (Option Value)} {oc_through kV_through dc_through pm_through cd_through ct_through : Value} (a_through : PySem.W.nsIn K mainGlobals "through" = some (some (.ref f_through))) (l_through : K.lookup f_through = some ⟨oc_through, od_through, .func (PySem.W.fnOf "through" "through" (defArgs st_through) (defBody st_through) (defScope st_through) .none kV_through dc_through pm_through an_through cd_through ct_through), sl_through⟩) (c_through : PySem.W.codeIn K cd_through "through" = true) (k_through : PySem.W.keepIn K (.ref f_through) = true)
    {f_law : Addr} {od_law an_law : Option Addr} {sl_law : Array (Option Value)} {oc_law kV_law dc_law pm_law cd_law ct_law : Value} (a_law : PySem.W.nsIn K mainGlobals "law" = some (some (.ref f_law))) (l_law : K.lookup f_law = some ⟨oc_law, od_law, .func (PySem.W.fnOf "law" "law" (defArgs st_law) (defBody st_law) (defScope st_law) .none kV_law dc_law pm_law an_law cd_law ct_law), sl_law⟩) (c_law : PySem.W.codeIn K cd_law "law" = true) (k_law : PySem.W.keepIn K (.ref f_law) = true)
    (z_abs : PySem.W.nsIn K mainGlobals "abs" = some none) (z_int : PySem.W.nsIn K mainGlobals "int" = some none) (z_sum : PySem.W.nsIn K mainGlobals "sum" = some none) (z_zip : PySem.W.nsIn K mainGlobals "zip" = some none) (z_tuple : PySem.W.nsIn K mainGlobals "tuple" = some none) (z_range : PySem.W.nsIn K mainGlobals "range" = some none) (z_len : PySem.W.nsIn K mainGlobals "len" = some none) (z_isinstance : PySem.W.nsIn K mainGlobals "isinstance" = some none) (z_list : PySem.W.nsIn K mainGlobals "list" = some none) :
    ∃ fd : FuncData, (∀ (s : Shared) (v : Value), BindsTo s fd ⟨[v], []⟩ [("_law_script", v)]) ∧ ∀ base : Heap, K.In base → base.Ns mainGlobals mg → FnOk P w K mg base (L2.CX P w) 4 fa fd ["_law_script"] (spLaw K) := by
  have e := hfa.symm.trans (PySem.W.mg_of X G a_law)
  cases e
  have Q_law_state := fun_mk (st := st_law_state) l_law_state c_law_state k_law_state
  have b_law_state := Q_law_state.binds (ps := ["_law_cell"]) fun _ _ _ _ _ _ us hl => match us, hl with | [_], _ => rfl
  have Q_product_sum := fun_mk (st := st_product_sum) l_product_sum c_product_sum k_product_sum
  have b_product_sum := Q_product_sum.binds (ps := ["one", "other"]) fun _ _ _ _ _ _ us hl => match us, hl with | [_, _], _ => rfl
  have Q_put_behind := fun_mk (st := st_put_behind) l_put_behind c_put_behind k_put_behind
  have b_put_behind := Q_put_behind.binds (ps := ["later", "table"]) fun _ _ _ _ _ _ us hl => match us, hl with | [_, _], _ => rfl
  have Q_law_digit := fun_mk (st := st_law_digit) l_law_digit c_law_digit k_law_digit
  have b_law_digit := Q_law_digit.binds (ps := ["_law_state_here", "_law_base"]) fun _ _ _ _ _ _ us hl => match us, hl with | [_, _], _ => rfl
  have Q_law_great := fun_mk (st := st_law_great) l_law_great c_law_great k_law_great
  have b_law_great := Q_law_great.binds (ps := ["_law_s"]) fun _ _ _ _ _ _ us hl => match us, hl with | [_], _ => rfl
  have Q_law_table := fun_mk (st := st_law_table) l_law_table c_law_table k_law_table
  have b_law_table := Q_law_table.binds (ps := ["_law_s", "_law_length"]) fun _ _ _ _ _ _ us hl => match us, hl with | [_, _], _ => rfl
  have Q_through := fun_mk (st := st_through) l_through c_through k_through
  have b_through := Q_through.binds (ps := ["table", "row"]) fun _ _ _ _ _ _ us hl => match us, hl with | [_, _], _ => rfl
  have Q_law := fun_mk (st := st_law) l_law c_law k_law
  refine ⟨PySem.W.fnOf "law" "law" (defArgs st_law) (defBody st_law) (defScope st_law) .none kV_law dc_law pm_law an_law cd_law ct_law, fun s v => .of_eq rfl, fun base hKb hnb => ?_⟩
  have m_abs := PySem.W.mg_none_of X G z_abs
  have m_int := PySem.W.mg_none_of X G z_int
  have m_sum := PySem.W.mg_none_of X G z_sum
  have m_zip := PySem.W.mg_none_of X G z_zip
  have m_tuple := PySem.W.mg_none_of X G z_tuple
  have m_range := PySem.W.mg_none_of X G z_range
  have m_len := PySem.W.mg_none_of X G z_len
  have m_isinstance := PySem.W.mg_none_of X G z_isinstance
  have m_list := PySem.W.mg_none_of X G z_list
  have F_law_state := ok_law_state (P := P) (w := w) (mg := mg) (base := base) Q_law_state m_abs m_int
  have F_product_sum := ok_product_sum (P := P) (w := w) (mg := mg) (base := base) Q_product_sum m_sum m_zip
  have F_put_behind := ok_put_behind (P := P) (w := w) (mg := mg) (base := base) Q_put_behind F_product_sum (PySem.W.mg_of X G a_product_sum) k_product_sum b_product_sum m_tuple m_range m_len
  have F_law_digit := ok_law_digit (P := P) (w := w) (mg := mg) (base := base) Q_law_digit m_int
  have F_law_great := ok_law_great (P := P) (w := w) (mg := mg) (base := base) Q_law_great F_law_digit (PySem.W.mg_of X G a_law_digit) k_law_digit b_law_digit
  have F_law_table := ok_law_table (P := P) (w := w) (mg := mg) (base := base) Q_law_table F_law_great (PySem.W.mg_of X G a_law_great) k_law_great b_law_great m_tuple m_range
  have F_through := ok_through (P := P) (w := w) (mg := mg) (base := base) Q_through F_product_sum (PySem.W.mg_of X G a_product_sum) k_product_sum b_product_sum m_tuple
  have F_law := ok_law (P := P) (w := w) (mg := mg) (base := base) Q_law F_law_state (PySem.W.mg_of X G a_law_state) k_law_state b_law_state F_put_behind (PySem.W.mg_of X G a_put_behind) k_put_behind b_put_behind F_law_digit (PySem.W.mg_of X G a_law_digit) k_law_digit b_law_digit F_law_table (PySem.W.mg_of X G a_law_table) k_law_table b_law_table F_through (PySem.W.mg_of X G a_through) k_through b_through F_law_great (PySem.W.mg_of X G a_law_great) k_law_great b_law_great m_tuple m_sum m_isinstance m_len m_list m_range
  refine F_law.imp fun vs H Q E q => ?_
  obtain ⟨a, ns, rfl, hS, hl, hbits, hq⟩ := q
  obtain ⟨cs, e⟩ := lawT ns hl hbits
  refine ⟨rfl, [.lst (ns.map Pv.int)], [], [], H, ⟨Ex.refl _, List.nodup_nil, rfl, fun k c a h => by simp at h, fun k c a h => by simp at h⟩, .cons (.lst hS (RepVs.of_ints ns)) .nil, ?_⟩
  rw [e]
  intro w U' H' μ' g r rp
  cases rp
  exact hq H'
end Lw

set_option Elab.async false
set_option linter.all false
set_option autoImplicit false
set_option maxRecDepth 100000
set_option maxHeartbeats 4000000
namespace Lw
open PySem AL
/-! ### generic -/
theorem log2_lt {n a : Nat} (h : n < 2 ^ a) (h0 : 0 < a) : n.log2 < a := by
  by_cases hn : n = 0
  · subst hn; simpa using h0
  · exact (Nat.log2_lt hn).mpr h
theorem mul_ok {i j : Int} {a b : Nat} (hi : i.natAbs < 2 ^ a) (hj : j.natAbs < 2 ^ b) (h0 : 0 < a) (h1 : 0 < b) (h : a + b < 1000000) : mulOk i j = true := by
  have x := log2_lt hi h0
  have y := log2_lt hj h1
  exact decide_eq_true (by omega)
theorem fdiv_ok {j : Int} {b : Nat} (h : j ≠ 0) (hj : j.natAbs < 2 ^ b) (h1 : 0 < b) (h2 : b < 9000) : fdivOk j = true := by
  have y := log2_lt hj h1
  unfold fdivOk
  rw [decide_eq_true h, decide_eq_true (show j.natAbs.log2 < 9000 by omega)]
  rfl
structure G3 (cs : Cells) (k : Nat) : Prop where
  ex : ∃ a b c : Int, cs[k]? = some (.lst [.int a, .int b, .int c]) ∧ 0 ≤ a ∧ 7 ≤ b ∧ b < 2147483640 ∧ 0 ≤ c ∧ c < 2147483640
/-- all cells but the k-th stand -/
structure Fm (k : Nat) (cs cs' : Cells) : Prop where
  len : cs'.length = cs.length
  at_ : ∀ j, j ≠ k → cs'[j]? = cs[j]?
theorem Fm.refl (k : Nat) (cs : Cells) : Fm k cs cs := ⟨rfl, fun _ _ => rfl⟩
theorem Fm.trans {k : Nat} {a b c : Cells} (h : Fm k a b) (g : Fm k b c) : Fm k a c := ⟨g.len.trans h.len, fun j hj => (g.at_ j hj).trans (h.at_ j hj)⟩
theorem Fm.set (k : Nat) (cs : Cells) (c : Co) : Fm k cs (cs.set k c) := ⟨List.length_set, fun j hj => List.getElem?_set_ne (Ne.symm hj)⟩
theorem digit_ok {cs : Cells} {k : Nat} (h : G3 cs k) {n : Int} (h0 : 0 < n) (h1 : n.natAbs < 2 ^ 200) : ∃ d cs', m_law_digit [.ref k, .int n] cs = .ok (.int d) cs' ∧ 0 ≤ d ∧ d < n ∧ G3 cs' k ∧ Fm k cs cs' := by
  obtain ⟨a, b, c, hk, ha, hb, hb2, hc, hc2⟩ := h.ex
  have kl : k < cs.length := (List.getElem?_eq_some_iff.mp hk).1
  have hn : n ≠ 0 := by omega
  have hf : fdivOk n = true := fdiv_ok hn h1 (by omega) (by omega)
  by_cases hp : 0 < a
  · refine ⟨a.fmod n, cs.set k (.lst [.int (a.fdiv n), .int b, .int c]), ?_, ?_, ?_, ⟨_, _, _, List.getElem?_set_self kl, ?_, hb, hb2, hc, hc2⟩, Fm.set _ _ _⟩
    · simp [m_law_digit, body_law_digit, v_ixC hk, hk, L2.atI, L2.ixN, hp, hn, hf, putIx]
    · rw [Int.fmod_eq_emod_of_nonneg _ (by omega)]; exact Int.emod_nonneg _ hn
    · rw [Int.fmod_eq_emod_of_nonneg _ (by omega)]; exact Int.emod_lt_of_pos _ h0
    · rw [Int.fdiv_eq_ediv_of_nonneg _ (by omega)]; exact Int.ediv_nonneg ha (by omega)
  · have e0 : ¬ (0 < a) := hp
    have hq : 0 ≤ b.fdiv 1009 ∧ b.fdiv 1009 < 2147483640 := by
      rw [Int.fdiv_eq_ediv_of_nonneg _ (by decide)]; omega
    have hm : mulOk b (b.fdiv 1009 + 69621) = true := mul_ok (a := 40) (b := 40) (by omega) (by omega) (by decide) (by decide) (by decide)
    have hs : ∀ v, (cs.set k v)[k]? = some v := fun v => List.getElem?_set_self kl
    have f9 : fdivOk 1009 = true := by decide +kernel
    have f7 : fdivOk 97 = true := by decide +kernel
    refine ⟨(((b * (b.fdiv 1009 + 69621) + c).fmod 2147483629 + 7).fdiv 97).fmod n, cs.set k (.lst [.int a, .int ((b * (b.fdiv 1009 + 69621) + c).fmod 2147483629 + 7), .int c]), ?_, ?_, ?_, ⟨_, _, _, List.getElem?_set_self kl, ha, ?_, ?_, hc, hc2⟩, Fm.set _ _ _⟩
    · simp [m_law_digit, body_law_digit, v_ixC hk, v_ixC (hs _), hk, L2.atI, L2.ixN, hp, hn, f9, f7, hm, putIx]
    · rw [Int.fmod_eq_emod_of_nonneg _ (by omega)]; exact Int.emod_nonneg _ hn
    · rw [Int.fmod_eq_emod_of_nonneg _ (by omega)]; exact Int.emod_lt_of_pos _ h0
    · rw [Int.fmod_eq_emod_of_nonneg _ (by decide)]; omega
    · rw [Int.fmod_eq_emod_of_nonneg _ (by decide)]; omega
theorem state_ok (cs : Cells) (z : Int) (hz : Builtin.Int.intBits z ≤ 1048576) : ∃ cs', m_law_state [.int z] cs = .ok (.ref cs.length) cs' ∧ G3 cs' cs.length := by
  have hb : z.natAbs.log2 ≤ 1048576 := by
    unfold Builtin.Int.intBits at hz
    split at hz
    · rename_i h0
      have : z = 0 := by simpa using h0
      subst this; decide
    · omega
  obtain ⟨w, hw, hw0, hwl⟩ : ∃ w : Int, (if z < 0 then -z else z) = w ∧ 0 ≤ w ∧ w.natAbs.log2 ≤ 1048576 := by
    refine ⟨_, rfl, by split <;> omega, ?_⟩
    have : (if z < 0 then -z else z).natAbs = z.natAbs := by split <;> omega
    rw [this]; exact hb
  have l1 : (1 : Int).natAbs.log2 = 0 := by decide
  have l0 : (0 : Int).natAbs.log2 = 0 := by decide
  have m1 : mulOk w 1 = true := decide_eq_true (by rw [l1]; omega)
  have m0 : mulOk w 0 = true := decide_eq_true (by rw [l0]; omega)
  have p18 : powOk 10 18 = true := by decide +kernel
  have r1 : 0 ≤ w.fmod 2147483629 ∧ w.fmod 2147483629 < 2147483629 := by rw [Int.fmod_eq_emod_of_nonneg _ (by decide)]; omega
  have r2 : 0 ≤ w.fmod 2147483587 ∧ w.fmod 2147483587 < 2147483587 := by rw [Int.fmod_eq_emod_of_nonneg _ (by decide)]; omega
  by_cases hg : (1000000000000000000 : Int) ≤ w
  · refine ⟨cs ++ [.lst [.int (w * 1), .int (w.fmod 2147483629 + 7), .int (w.fmod 2147483587)]], ?_, ⟨w * 1, w.fmod 2147483629 + 7, w.fmod 2147483587, by simp, by omega, by omega, by omega, by omega, by omega⟩⟩
    simp [m_law_state, body_law_state, hw, p18, hg, m1, fits]
  · refine ⟨cs ++ [.lst [.int (w * 0), .int (w.fmod 2147483629 + 7), .int (w.fmod 2147483587)]], ?_, ⟨w * 0, w.fmod 2147483629 + 7, w.fmod 2147483587, by simp, by omega, by omega, by omega, by omega, by omega⟩⟩
    simp [m_law_state, body_law_state, hw, p18, hg, m0, fits]
/-! ### the draws -/
def Small (z : Int) : Prop := z.natAbs < 2 ^ 80
theorem great_ok {cs : Cells} {k : Nat} (h : G3 cs k) : ∃ v cs', m_law_great [.ref k] cs = .ok (.int v) cs' ∧ Small v ∧ G3 cs' k ∧ Fm k cs cs' := by
  obtain ⟨d1, c1, e1, a1, b1, g1, f1⟩ := digit_ok h (n := 7) (by decide) (by decide)
  obtain ⟨d2, c2, e2, a2, b2, g2, f2'⟩ := digit_ok g1 (n := 7) (by decide) (by decide)
  obtain ⟨d3, c3, e3, a3, b3, g3, f3⟩ := digit_ok g2 (n := 1000000000) (by decide) (by decide)
  obtain ⟨d4, c4, e4, a4, b4, g4, f4⟩ := digit_ok g3 (n := 3) (by decide) (by decide)
  have p9 : powOk 10 9 = true := by decide +kernel
  have p12 : powOk 10 12 = true := by decide +kernel
  have hm : mulOk (d3 - 4) 1000000000000 = true := mul_ok (a := 40) (b := 60) (by omega) (by decide) (by decide) (by decide) (by decide)
  have fr := ((f1.trans f2').trans f3).trans f4
  have run : ∀ v, L2.atI [Pv.int (d1 - 3), Pv.int (d2 - 3), Pv.int ((d3 - 4) * 1000000000000)] d4 = some v → m_law_great [.ref k] cs = .ok v c4 := fun v hv => by
    simp [m_law_great, body_law_great, e1, e2, e3, e4, p9, p12, hm, fits, hv]
  have hd : d4 = 0 ∨ d4 = 1 ∨ d4 = 2 := by omega
  rcases hd with rfl | rfl | rfl
  · exact ⟨_, c4, run _ rfl, by unfold Small; omega, g4, fr⟩
  · exact ⟨_, c4, run _ rfl, by unfold Small; omega, g4, fr⟩
  · exact ⟨_, c4, run _ rfl, by unfold Small; omega, g4, fr⟩
end Lw

set_option Elab.async false
set_option linter.all false
set_option autoImplicit false
set_option maxRecDepth 100000
set_option maxHeartbeats 4000000
namespace Lw
open PySem AL
/-! ### sums -/
def S (n : Nat) (f : Nat → Int) : Int := ((List.range n).map f).sum
theorem S_zero (f : Nat → Int) : S 0 f = 0 := rfl
theorem S_succ (n : Nat) (f : Nat → Int) : S (n + 1) f = S n f + f n := by
  unfold S
  rw [List.range_succ, List.map_append, List.sum_append]
  simp
theorem S_succ' (n : Nat) (f : Nat → Int) : S (n + 1) f = f 0 + S n fun k => f (k + 1) := by
  unfold S
  rw [List.range_succ_eq_map, List.map_cons, List.sum_cons, List.map_map]
  rfl
theorem S_congr {n : Nat} {f g : Nat → Int} (h : ∀ k, k < n → f k = g k) : S n f = S n g := by
  unfold S
  congr 1
  exact List.map_congr_left fun k hk => h k (List.mem_range.mp hk)
theorem S_add (n : Nat) (f g : Nat → Int) : S n (fun k => f k + g k) = S n f + S n g := by
  induction n with
  | zero => rfl
  | succ n ih => rw [S_succ, S_succ, S_succ, ih]; omega
theorem S_mul (n : Nat) (c : Int) (f : Nat → Int) : S n (fun k => c * f k) = c * S n f := by
  induction n with
  | zero => rw [S_zero, S_zero, Int.mul_zero]
  | succ n ih => rw [S_succ, S_succ, ih, Int.mul_add]
theorem S_mulr (n : Nat) (c : Int) (f : Nat → Int) : S n (fun k => f k * c) = S n f * c := by
  rw [Int.mul_comm, ← S_mul]
  exact S_congr fun k _ => Int.mul_comm _ _
theorem S_const0 (n : Nat) : S n (fun _ => 0) = 0 := by
  induction n with
  | zero => rfl
  | succ n ih => rw [S_succ, ih]; rfl
theorem S_swap (n m : Nat) (f : Nat → Nat → Int) : S n (fun i => S m (f i)) = S m fun j => S n fun i => f i j := by
  induction n with
  | zero => rw [S_zero]; exact (S_const0 m).symm
  | succ n ih =>
    rw [S_succ, ih, ← S_add]
    exact S_congr fun j _ => (S_succ n _).symm
/-! ### rows -/
def dot (xs ys : List Int) : Int := (List.zipWith (· * ·) xs ys).sum
theorem dot_S : ∀ (n : Nat) (xs ys : List Int), xs.length = n → ys.length = n → dot xs ys = S n fun k => xs.getD k 0 * ys.getD k 0
  | 0, xs, ys, h1, h2 => by
    have := List.length_eq_zero_iff.mp h1
    subst this
    rfl
  | n + 1, [], _, h1, _ => by simp at h1
  | n + 1, x :: xs, [], _, h2 => by simp at h2
  | n + 1, x :: xs, y :: ys, h1, h2 => by
    rw [S_succ']
    show (x * y :: List.zipWith (· * ·) xs ys).sum = _
    rw [List.sum_cons]
    have ih := dot_S n xs ys (by simpa using h1) (by simpa using h2)
    unfold dot at ih
    rw [ih]
    rfl
def col (T : List (List Int)) (k : Nat) : List Int := T.map fun row => row.getD k 0
def thr (T : List (List Int)) (r : List Int) : List Int := T.map fun one => dot one r
def pbm (L T : List (List Int)) : List (List Int) := L.map fun one => (List.range T.length).map fun k => dot one (col T k)
structure Mat (n b : Nat) (T : List (List Int)) : Prop where
  len : T.length = n
  row : ∀ r ∈ T, r.length = n
  bd : ∀ r ∈ T, ∀ x ∈ r, x.natAbs < 2 ^ b
theorem getD_mem {xs : List Int} {k : Nat} (h : k < xs.length) : xs.getD k 0 ∈ xs := by
  rw [List.getD_eq_getElem?_getD, List.getElem?_eq_getElem h]
  exact List.getElem_mem h
theorem getD_map {α : Type} (T : List α) (f : α → Int) (d : α) (k : Nat) (h : k < T.length) : (T.map f).getD k 0 = f (T.getD k d) := by
  rw [List.getD_eq_getElem?_getD, List.getD_eq_getElem?_getD, List.getElem?_map, List.getElem?_eq_getElem h]
  rfl
theorem getD_range (n : Nat) (f : Nat → Int) (k : Nat) (h : k < n) : ((List.range n).map f).getD k 0 = f k := by
  rw [List.getD_eq_getElem?_getD, List.getElem?_map, List.getElem?_range h]
  rfl
theorem key {n b : Nat} {A : List (List Int)} (hA : Mat n b A) {o r : List Int} (ho : o.length = n) (hr : r.length = n) : dot ((List.range n).map fun k => dot o (col A k)) r = dot o (thr A r) := by
  have hc : ∀ k, (col A k).length = n := fun k => by unfold col; rw [List.length_map]; exact hA.len
  have ht : (thr A r).length = n := by unfold thr; rw [List.length_map]; exact hA.len
  rw [dot_S n _ _ (by rw [List.length_map, List.length_range]) hr, dot_S n _ _ ho ht]
  have e1 : (S n fun k => ((List.range n).map fun k => dot o (col A k)).getD k 0 * r.getD k 0) = S n fun k => S n fun j => o.getD j 0 * (A.getD j []).getD k 0 * r.getD k 0 := by
    refine S_congr fun k hk => ?_
    rw [getD_range n _ k hk, dot_S n _ _ ho (hc k), ← S_mulr]
    refine S_congr fun j hj => ?_
    unfold col
    rw [getD_map A _ [] j (by rw [hA.len]; exact hj)]
  have e2 : (S n fun k => o.getD k 0 * (thr A r).getD k 0) = S n fun j => S n fun k => o.getD j 0 * (A.getD j []).getD k 0 * r.getD k 0 := by
    refine S_congr fun j hj => ?_
    have hj' : j < A.length := by rw [hA.len]; exact hj
    have hrow : (A.getD j []).length = n := by
      rw [List.getD_eq_getElem?_getD, List.getElem?_eq_getElem hj']
      exact hA.row _ (List.getElem_mem hj')
    unfold thr
    rw [getD_map A _ [] j hj', dot_S n _ _ hrow hr, ← S_mul]
    exact S_congr fun k _ => (Int.mul_assoc _ _ _).symm
  rw [e1, e2]
  exact S_swap n n _
theorem thr_pbm {n b : Nat} {A B : List (List Int)} (hA : Mat n b A) (hB : ∀ o ∈ B, o.length = n) {r : List Int} (hr : r.length = n) : thr (pbm B A) r = thr B (thr A r) := by
  unfold pbm
  unfold thr
  rw [List.map_map]
  refine List.map_congr_left fun o ho => ?_
  show dot ((List.range A.length).map fun k => dot o (col A k)) r = _
  rw [hA.len]
  exact key hA (hB o ho) hr
theorem pbm_pbm {n b c : Nat} {A B C : List (List Int)} (hA : ∀ o ∈ A, o.length = n) (hB : Mat n b B) (hC : Mat n c C) : pbm A (pbm B C) = pbm (pbm A B) C := by
  have hl : (pbm B C).length = n := by unfold pbm; rw [List.length_map]; exact hB.len
  have hcol : ∀ k, k < n → col (pbm B C) k = thr B (col C k) := fun k hk => by
    unfold pbm col thr
    rw [List.map_map]
    refine List.map_congr_left fun o _ => ?_
    show ((List.range C.length).map fun k => dot o (col C k)).getD k 0 = _
    rw [hC.len, getD_range n _ k hk]
    rfl
  unfold pbm
  rw [List.map_map]
  refine List.map_congr_left fun o ho => ?_
  show (List.range (pbm B C).length).map (fun k => dot o (col (pbm B C) k)) = (List.range C.length).map fun k => dot ((List.range B.length).map fun k => dot o (col B k)) (col C k)
  rw [hl, hC.len, hB.len]
  refine List.map_congr_left fun k hk => ?_
  have hk := List.mem_range.mp hk
  rw [hcol k hk, key hB (hA o ho) (by unfold col; rw [List.length_map]; exact hC.len)]
/-! ### bounds -/
theorem dot_bd {a b : Nat} : ∀ (xs ys : List Int), (∀ x ∈ xs, x.natAbs < 2 ^ a) → (∀ y ∈ ys, y.natAbs < 2 ^ b) → (dot xs ys).natAbs ≤ xs.length * 2 ^ (a + b)
  | [], _, _, _ => by simp [dot]
  | _ :: _, [], _, _ => by simp [dot]
  | x :: xs, y :: ys, h1, h2 => by
    have ih := dot_bd xs ys (fun z hz => h1 z (List.mem_cons_of_mem _ hz)) fun z hz => h2 z (List.mem_cons_of_mem _ hz)
    have e : dot (x :: xs) (y :: ys) = x * y + dot xs ys := by unfold dot; simp
    have hm : (x * y).natAbs ≤ 2 ^ (a + b) := by
      rw [Int.natAbs_mul, Nat.pow_add]
      exact Nat.mul_le_mul (Nat.le_of_lt (h1 x List.mem_cons_self)) (Nat.le_of_lt (h2 y List.mem_cons_self))
    have := Int.natAbs_add_le (x * y) (dot xs ys)
    rw [e, List.length_cons, Nat.add_mul, Nat.one_mul]
    omega
theorem dot_lt {a b : Nat} {xs ys : List Int} (hl : xs.length ≤ 7) (h1 : ∀ x ∈ xs, x.natAbs < 2 ^ a) (h2 : ∀ y ∈ ys, y.natAbs < 2 ^ b) : (dot xs ys).natAbs < 2 ^ (a + b + 3) := by
  have := dot_bd xs ys h1 h2
  have h8 : xs.length * 2 ^ (a + b) ≤ 7 * 2 ^ (a + b) := Nat.mul_le_mul_right _ hl
  have hp : 0 < 2 ^ (a + b) := Nat.pow_pos (by decide)
  rw [Nat.pow_add 2 (a + b) 3]
  omega
theorem col_bd {n b : Nat} {T : List (List Int)} (h : Mat n b T) (k : Nat) : ∀ x ∈ col T k, x.natAbs < 2 ^ b := fun x hx => by
  unfold col at hx
  obtain ⟨r, hr, rfl⟩ := List.mem_map.mp hx
  by_cases hk : k < r.length
  · exact h.bd r hr _ (getD_mem hk)
  · rw [List.getD_eq_getElem?_getD, List.getElem?_eq_none (by omega)]
    exact Nat.pow_pos (by decide)
theorem pbm_mat {n a b : Nat} {A B : List (List Int)} (hn : n ≤ 7) (hA : Mat n a A) (hB : Mat n b B) : Mat n (a + b + 3) (pbm A B) := by
  refine ⟨by unfold pbm; rw [List.length_map]; exact hA.len, fun r hr => ?_, fun r hr x hx => ?_⟩
  · obtain ⟨o, ho, rfl⟩ := List.mem_map.mp hr
    rw [List.length_map, List.length_range]; exact hB.len
  · obtain ⟨o, ho, rfl⟩ := List.mem_map.mp hr
    obtain ⟨k, hk, rfl⟩ := List.mem_map.mp hx
    exact dot_lt (by rw [hA.row o ho]; exact hn) (hA.bd o ho) (col_bd hB k)
theorem thr_bd {n a b : Nat} {A : List (List Int)} {r : List Int} (hn : n ≤ 7) (hA : Mat n a A) (hr : ∀ x ∈ r, x.natAbs < 2 ^ b) : ∀ x ∈ thr A r, x.natAbs < 2 ^ (a + b + 3) := fun x hx => by
  obtain ⟨o, ho, rfl⟩ := List.mem_map.mp hx
  exact dot_lt (by rw [hA.row o ho]; exact hn) (hA.bd o ho) hr
end Lw

set_option Elab.async false
set_option linter.all false
set_option autoImplicit false
set_option maxRecDepth 100000
set_option maxHeartbeats 4000000
namespace Lw
open PySem AL
abbrev rowT (r : List Int) : Pv := .tup (r.map Pv.int)
abbrev matT (T : List (List Int)) : Pv := .tup (T.map rowT)
/-- a frozen list or tuple of ints -/
def SeqI (p : Pv) (r : List Int) : Prop := p = .lst (r.map Pv.int) ∨ p = rowT r
theorem SeqI.seq {p : Pv} {r : List Int} (h : SeqI p r) (cs : Cells) : seqOf cs p = some (r.map Pv.int) := by rcases h with rfl | rfl <;> rfl
theorem SeqI.fz {p : Pv} {r : List Int} (h : SeqI p r) : isFz p = true := by rcases h with rfl | rfl <;> rfl
theorem pairUp_zip : ∀ (xs ys : List Int), pairUp (xs.map Pv.int) (ys.map Pv.int) = (xs.zip ys).map fun z => Pv.tup [.int z.1, .int z.2]
  | [], _ => rfl
  | _ :: _, [] => rfl
  | x :: xs, y :: ys => by
    show Pv.tup [.int x, .int y] :: pairUp (xs.map Pv.int) (ys.map Pv.int) = _
    rw [pairUp_zip xs ys]; rfl
theorem zip_dot : ∀ (xs ys : List Int), ((xs.zip ys).map fun z => z.1 * z.2).sum = dot xs ys
  | [], _ => rfl
  | _ :: _, [] => rfl
  | x :: xs, y :: ys => by
    have := zip_dot xs ys
    unfold dot at this ⊢
    simp [this]
theorem ps_ok {p q : Pv} {xs ys : List Int} (hp : SeqI p xs) (hq : SeqI q ys) (hl : xs.length ≤ 1000) (hm : ∀ x ∈ xs, ∀ y ∈ ys, mulOk x y = true) (cs : Cells) : m_product_sum [p, q] cs = .ok (.int (dot xs ys)) cs := by
  have hlc : fLc (iZip (fVar 0) (fVar 1)) (gT 2 (gsCons (gN 2) (gsCons (gN 3) gsNil))) fYes (f2 oMul (fVar 2) (fVar 3)) [2, 3] [some p, some q, none, none] cs = .ok (.lst ((xs.zip ys).map fun z => Pv.int (z.1 * z.2))) cs := by
    refine fLc_map (L := xs.zip ys) (f := fun z => Pv.tup [.int z.1, .int z.2]) ?_ (by rw [List.length_zip]; omega) fun z hz => ?_
    · simp [hp.seq, hq.seq, hp.fz, hq.fz, pairUp_zip]
    · have := List.of_mem_zip (a := z.1) (b := z.2) hz
      simp [hm z.1 this.1 z.2 this.2]
  have e : ((xs.zip ys).map fun z => Pv.int (z.1 * z.2)) = ((xs.zip ys).map fun z => z.1 * z.2).map Pv.int := by rw [List.map_map]; rfl
  rw [e] at hlc
  simp [m_product_sum, body_product_sum, hlc, -List.map_map, zip_dot]
theorem mul_bd {a b : Nat} {xs ys : List Int} (h1 : ∀ x ∈ xs, x.natAbs < 2 ^ a) (h2 : ∀ y ∈ ys, y.natAbs < 2 ^ b) (ha : 0 < a) (hb : 0 < b) (h : a + b < 1000000) : ∀ x ∈ xs, ∀ y ∈ ys, mulOk x y = true := fun x hx y hy => mul_ok (h1 x hx) (h2 y hy) ha hb h
theorem through_ok {n a b : Nat} {T : List (List Int)} {q : Pv} {r : List Int} (hn : n ≤ 7) (hT : Mat n a T) (hq : SeqI q r) (hr : ∀ x ∈ r, x.natAbs < 2 ^ b) (ha : 0 < a) (hb : 0 < b) (h : a + b < 1000000) (cs : Cells) : m_through [matT T, q] cs = .ok (rowT (thr T r)) cs := by
  have hlc : fLc (iSeq (fVar 0)) (gN 2) fYes (fCall m_product_sum (fCons (fVar 2) (fCons (fVar 1) fNil))) [2] [some (matT T), some q, none] cs = .ok (.lst (T.map fun o => Pv.int (dot o r))) cs := by
    refine fLc_map (L := T) (f := rowT) (by simp) (by rw [hT.len]; omega) fun o ho => ?_
    have e := ps_ok (p := rowT o) (q := q) (.inr rfl) hq (by rw [hT.row o ho]; omega) (mul_bd (hT.bd o ho) hr ha hb h) cs
    simp [e]
  simp [m_through, body_through, hlc, thr]
theorem put_ok {n a b : Nat} {A B : List (List Int)} (hn : n ≤ 7) (hA : Mat n a A) (hB : Mat n b B) (ha : 0 < a) (hb : 0 < b) (h : a + b < 1000000) (cs : Cells) : m_put_behind [matT A, matT B] cs = .ok (matT (pbm A B)) cs := by
  have h1 : fLc (iRange1 (fCall mLen (fCons (fVar 1) fNil))) (gN 3) fYes (fLc (iSeq (fVar 1)) (gN 4) fYes (f2 oIx (fVar 4) (fVar 3)) [4]) [3] [some (matT A), some (matT B), none, none, none, none, none] cs = .ok (.lst ((List.range n).map fun k => Pv.lst ((col B k).map Pv.int))) cs := by
    refine fLc_map (L := List.range n) (f := fun (k : Nat) => Pv.int (k : Int)) ?_ (by rw [List.length_range]; omega) fun k hk => ?_
    · exact range_ok n (by simp [hB.len]) rfl (by omega)
    · have hk := List.mem_range.mp hk
      have h2 : fLc (iSeq (fVar 1)) (gN 4) fYes (f2 oIx (fVar 4) (fVar 3)) [4] [some (matT A), some (matT B), none, some (Pv.int (k : Int)), none, none, none] cs = .ok (.lst (B.map fun row => Pv.int (row.getD k 0))) cs := by
        refine fLc_map (L := B) (f := rowT) (by simp) (by rw [hB.len]; omega) fun o ho => ?_
        have hl := hB.row o ho
        have hat : L2.atI (o.map Pv.int) (k : Int) = some (Pv.int (o.getD k 0)) := by
          refine L2.atI_nat ?_
          rw [List.getElem?_map, List.getD_eq_getElem?_getD, List.getElem?_eq_getElem (by omega)]
          rfl
        simp [hat]
      simp [h2, col]
  have h3 : fLc (iSeq (fVar 0)) (gN 5) fYes (fCall mTuple (fCons (fLc (iSeq (fVar 2)) (gN 6) fYes (fCall m_product_sum (fCons (fVar 5) (fCons (fVar 6) fNil))) [6]) fNil)) [5] [some (matT A), some (matT B), some (.lst ((List.range n).map fun k => Pv.lst ((col B k).map Pv.int))), none, none, none, none] cs = .ok (.lst (A.map fun o => rowT ((List.range n).map fun k => dot o (col B k)))) cs := by
    refine fLc_map (L := A) (f := rowT) (by simp) (by rw [hA.len]; omega) fun o ho => ?_
    have h4 : fLc (iSeq (fVar 2)) (gN 6) fYes (fCall m_product_sum (fCons (fVar 5) (fCons (fVar 6) fNil))) [6] [some (matT A), some (matT B), some (.lst ((List.range n).map fun k => Pv.lst ((col B k).map Pv.int))), none, none, some (rowT o), none] cs = .ok (.lst ((List.range n).map fun k => Pv.int (dot o (col B k)))) cs := by
      refine fLc_map (L := List.range n) (f := fun k => Pv.lst ((col B k).map Pv.int)) (by simp) (by rw [List.length_range]; omega) fun k hk => ?_
      have e := ps_ok (p := rowT o) (q := Pv.lst ((col B k).map Pv.int)) (.inr rfl) (.inl rfl) (by rw [hA.row o ho]; omega) (mul_bd (hA.bd o ho) (col_bd hB k) ha hb h) cs
      simp [e]
    simp [h4]
  simp [m_put_behind, body_put_behind, h1, h3, pbm, hB.len]
end Lw

set_option Elab.async false
set_option linter.all false
set_option autoImplicit false
set_option maxRecDepth 100000
set_option maxHeartbeats 4000000
namespace Lw
open PySem AL
theorem ints_of {R : Int → Prop} : ∀ (ys : List Pv), (∀ y ∈ ys, ∃ z, y = Pv.int z ∧ R z) → ∃ r : List Int, ys = r.map Pv.int ∧ ∀ z ∈ r, R z
  | [], _ => ⟨[], rfl, fun _ h => by simp at h⟩
  | y :: ys, h => by
    obtain ⟨z, rfl, hz⟩ := h y List.mem_cons_self
    obtain ⟨r, rfl, hr⟩ := ints_of ys fun u hu => h u (List.mem_cons_of_mem _ hu)
    refine ⟨z :: r, rfl, fun u hu => ?_⟩
    rcases List.mem_cons.mp hu with e | e
    · rw [e]; exact hz
    · exact hr u e
theorem rows_of {R : List Int → Prop} : ∀ (ys : List Pv), (∀ y ∈ ys, ∃ r, y = rowT r ∧ R r) → ∃ T : List (List Int), ys = T.map rowT ∧ ∀ r ∈ T, R r
  | [], _ => ⟨[], rfl, fun _ h => by simp at h⟩
  | y :: ys, h => by
    obtain ⟨z, rfl, hz⟩ := h y List.mem_cons_self
    obtain ⟨r, rfl, hr⟩ := rows_of ys fun u hu => h u (List.mem_cons_of_mem _ hu)
    refine ⟨z :: r, rfl, fun u hu => ?_⟩
    rcases List.mem_cons.mp hu with e | e
    · rw [e]; exact hz
    · exact hr u e
/-- a row of drawn numbers, in any frame whose slot holds the state -/
theorem row_lc {cs cs0 : Cells} {k n j : Nat} {src : FI} {sl : Sl} {v : Nat} (hs : src sl cs = .ok (.fz ((List.range n).map fun (k : Nat) => Pv.int (k : Int))) cs0) (hn : n ≤ 1000) (h : G3 cs0 k) (hv : ∀ (x : Pv) (cs' : Cells), fVar v (sl.set j (some x)) cs' = .ok (.ref k) cs') :
    ∃ (r : List Int) (cs' : Cells), fLc src (gN j) fYes (fCall m_law_great (fCons (fVar v) fNil)) [j] sl cs = .ok (.lst (r.map Pv.int)) cs' ∧ r.length = n ∧ (∀ z ∈ r, Small z) ∧ G3 cs' k ∧ Fm k cs0 cs' := by
  obtain ⟨ys, cs', e, l, r, p, f⟩ := fLc_some (g := gN j) (c := fYes) (e := fCall m_law_great (fCons (fVar v) fNil)) (vs := [j]) (P := fun c => G3 c k ∧ Fm k cs0 c) (R := fun y => ∃ z, y = Pv.int z ∧ Small z) hs (by rw [List.length_map, List.length_range]; omega) (fun x hx c pc => by
    obtain ⟨z, c', e, sz, g, f⟩ := great_ok pc.1
    have hv := hv x c
    exact ⟨.int z, c', by simp [hv, e], ⟨z, rfl, sz⟩, g, pc.2.trans f⟩) ⟨h, Fm.refl _ _⟩
  obtain ⟨r', rfl, hr⟩ := ints_of ys r
  exact ⟨r', cs', e, by simpa using l, hr, p, f⟩
theorem table_ok {cs : Cells} {k n : Nat} (hn : n ≤ 7) (h : G3 cs k) : ∃ T cs', m_law_table [.ref k, .int (n : Int)] cs = .ok (matT T) cs' ∧ Mat n 80 T ∧ G3 cs' k ∧ Fm k cs cs' := by
  have hs : ∀ (sl : Sl) (c : Cells), fVar 1 sl c = .ok (.int (n : Int)) c → iRange1 (fVar 1) sl c = .ok (.fz ((List.range n).map fun (k : Nat) => Pv.int (k : Int))) c := fun sl c e => range_ok n e rfl (by omega)
  obtain ⟨ys, cs', e, l, r, p, f⟩ := fLc_some (src := iRange1 (fVar 1)) (g := gN 2) (c := fYes) (e := fCall mTuple (fCons (fLc (iRange1 (fVar 1)) (gN 3) fYes (fCall m_law_great (fCons (fVar 0) fNil)) [3]) fNil)) (vs := [2]) (sl := [some (.ref k), some (.int (n : Int)), none, none]) (P := fun c => G3 c k ∧ Fm k cs c) (R := fun y => ∃ r, y = rowT r ∧ r.length = n ∧ ∀ z ∈ r, z.natAbs < 2 ^ 80) (hs _ cs rfl) (by rw [List.length_map, List.length_range]; omega) (fun x hx c pc => by
    obtain ⟨r, c', e, l, sz, g, f⟩ := row_lc (j := 3) (v := 0) (k := k) (sl := [some (.ref k), some (.int (n : Int)), some x, none]) (hs _ c rfl) (by omega) pc.1 (fun _ _ => rfl)
    exact ⟨rowT r, c', by simp [e], ⟨r, rfl, l, sz⟩, g, pc.2.trans f⟩) ⟨h, Fm.refl _ _⟩
  obtain ⟨T, rfl, hT⟩ := rows_of ys r
  refine ⟨T, cs', ?_, ⟨by simpa using l, fun r hr => (hT r hr).1, fun r hr => (hT r hr).2⟩, p, f⟩
  simp [m_law_table, body_law_table, e]
/-! ### data compared -/
theorem toPys_ints : ∀ (r : List Int), toPys (r.map Pv.int) = some (r.map PyData.int)
  | [] => rfl
  | x :: r => by simp [toPys, toPy, toPys_ints r]
theorem toPys_rows : ∀ (T : List (List Int)), toPys (T.map rowT) = some (T.map fun r => PyData.tuple (r.map PyData.int))
  | [] => rfl
  | x :: r => by simp [toPys, toPy, toPys_rows r, toPys_ints]
theorem lay_ints : ∀ (r : List Int), PyData.canLayAll0 (r.map PyData.int) = true
  | [] => rfl
  | x :: r => by simp [PyData.canLayAll0, PyData.canLay0, lay_ints r]
theorem dep_ints : ∀ (r : List Int), PyData.depthAll (r.map PyData.int) = 0
  | [] => rfl
  | x :: r => by simp [PyData.depthAll, PyData.depth, dep_ints r]
theorem lay_rows : ∀ (T : List (List Int)), PyData.canLayAll0 (T.map fun r => PyData.tuple (r.map PyData.int)) = true
  | [] => rfl
  | x :: r => by simp [PyData.canLayAll0, PyData.canLay0, lay_rows r, lay_ints]
theorem dep_rows : ∀ (T : List (List Int)), PyData.depthAll (T.map fun r => PyData.tuple (r.map PyData.int)) ≤ 1
  | [] => by simp [PyData.depthAll]
  | x :: r => by
    have := dep_rows r
    simp [PyData.depthAll, PyData.depth, dep_ints]; omega
theorem shaped_row (r : List Int) : SeqAt.shaped (.tuple (r.map PyData.int)) = true := by
  simp [SeqAt.shaped, PyData.canLay0, lay_ints, PyData.depth, dep_ints]
theorem shaped_mat (T : List (List Int)) : SeqAt.shaped (.tuple (T.map fun r => PyData.tuple (r.map PyData.int))) = true := by
  have := dep_rows T
  simp [SeqAt.shaped, PyData.canLay0, lay_rows, PyData.depth]; omega
theorem ne_row (r : List Int) (cs : Cells) : eqD true (rowT r) (rowT r) cs = .ok (.bl false) cs := v_neSelf (d := .tuple (r.map PyData.int)) (by simp [deref, toPy, toPys_ints]) (shaped_row r)
theorem ne_mat (T : List (List Int)) (cs : Cells) : eqD true (matT T) (matT T) cs = .ok (.bl false) cs := v_neSelf (d := .tuple (T.map fun r => PyData.tuple (r.map PyData.int))) (by simp [deref, toPy, toPys_rows]) (shaped_mat T)
theorem is_tup (xs : List Pv) (cs : Cells) : mIsB [.tup xs, .ty "tuple"] cs = .ok (.bl true) cs := by
  have : L2.kitB "tuple" "tuple" = some true := by decide +kernel
  simp [mIsB, pyTy, this]
end Lw

set_option Elab.async false
set_option linter.all false
set_option autoImplicit false
set_option maxRecDepth 100000
set_option maxHeartbeats 4000000
namespace Lw
open PySem AL
theorem turn_ok (z : Int) (hz : Builtin.Int.intBits z ≤ 1048576) (x0 x2 x3 x4 x5 x6 x7 x8 x9 x10 x11 : Option Pv) (cs : Cells) :
    ∃ y2 y3 y4 y5 y6 y7 y8 y9 cs', body_law_1 [x0, some (.int z), x2, x3, x4, x5, x6, x7, x8, x9, x10, x11] cs = .nx [x0, some (.int z), y2, y3, y4, y5, y6, y7, y8, y9, x10, x11] cs' := by
  obtain ⟨c1, e1, g1⟩ := state_ok cs z hz
  obtain ⟨d, c2, e2, d0, d1, g2, f2'⟩ := digit_ok g1 (n := 6) (by decide) (by decide)
  obtain ⟨n, hn, hn1, hn2⟩ : ∃ n : Nat, 1 + d = (n : Int) ∧ 1 ≤ n ∧ n ≤ 6 := ⟨(1 + d).toNat, by omega, by omega, by omega⟩
  obtain ⟨A, c3, e3, mA, g3, f3⟩ := table_ok (n := n) (by omega) g2
  obtain ⟨B, c4, e4, mB, g4, f4⟩ := table_ok (n := n) (by omega) g3
  obtain ⟨C, c5, e5, mC, g5, f5⟩ := table_ok (n := n) (by omega) g4
  obtain ⟨r, c6, e6, lr, hr, g6, f6⟩ := row_lc (j := 10) (v := 2) (k := cs.length) (src := iRange1 (fVar 3)) (cs := c5) (n := n) (sl := [x0, some (.int z), some (.ref cs.length), some (.int (n : Int)), some (matT A), some (matT B), some (matT C), x7, x8, x9, x10, x11]) (range_ok n (by simp) rfl (by omega)) (by omega) g5 (fun _ _ => rfl)
  have hrow : ∀ x ∈ r, x.natAbs < 2 ^ 80 := hr
  have hdue : fLc (iSeq (fVar 4)) (gN 11) fYes (fCall mSum (fCons (fLc (iRange1 (fVar 3)) (gN 10) fYes (f2 oMul (f2 oIx (fVar 11) (fVar 10)) (f2 oIx (fVar 7) (fVar 10))) [10]) fNil)) [11] [x0, some (.int z), some (.ref cs.length), some (.int (n : Int)), some (matT A), some (matT B), some (matT C), some (rowT r), x8, x9, x10, x11] c6 = .ok (.lst (A.map fun o => Pv.int (dot o r))) c6 := by
    refine fLc_map (L := A) (f := rowT) (by simp) (by rw [mA.len]; omega) fun o ho => ?_
    have lo := mA.row o ho
    have h2 : fLc (iRange1 (fVar 3)) (gN 10) fYes (f2 oMul (f2 oIx (fVar 11) (fVar 10)) (f2 oIx (fVar 7) (fVar 10))) [10] [x0, some (.int z), some (.ref cs.length), some (.int (n : Int)), some (matT A), some (matT B), some (matT C), some (rowT r), x8, x9, x10, some (rowT o)] c6 = .ok (.lst ((List.range n).map fun k => Pv.int (o.getD k 0 * r.getD k 0))) c6 := by
      refine fLc_map (L := List.range n) (f := fun (k : Nat) => Pv.int (k : Int)) (range_ok n (by simp) rfl (by omega)) (by rw [List.length_range]; omega) fun k hk => ?_
      have hk := List.mem_range.mp hk
      have a1 : L2.atI (o.map Pv.int) (k : Int) = some (Pv.int (o.getD k 0)) := by
        refine L2.atI_nat ?_
        rw [List.getElem?_map, List.getD_eq_getElem?_getD, List.getElem?_eq_getElem (by omega)]; rfl
      have a2 : L2.atI (r.map Pv.int) (k : Int) = some (Pv.int (r.getD k 0)) := by
        refine L2.atI_nat ?_
        rw [List.getElem?_map, List.getD_eq_getElem?_getD, List.getElem?_eq_getElem (by omega)]; rfl
      have hm : mulOk (o.getD k 0) (r.getD k 0) = true := mul_ok (mA.bd o ho _ (getD_mem (by omega))) (hrow _ (getD_mem (by omega))) (by decide) (by decide) (by decide)
      simp only [List.getD_eq_getElem?_getD] at a1 a2 hm ⊢
      simp [a1, a2, hm]
    have es : ((List.range n).map fun k => Pv.int (o.getD k 0 * r.getD k 0)) = ((List.range n).map fun k => o.getD k 0 * r.getD k 0).map Pv.int := by rw [List.map_map]; rfl
    rw [es] at h2
    have ed : dot o r = ((List.range n).map fun k => o.getD k 0 * r.getD k 0).sum := dot_S n o r lo lr
    rw [ed]
    simp only [ap_lcTurn, ap_gN, ap_wipe1, ap_wipe0, List.set_cons_succ, List.set_cons_zero, ap_yes, noX_ok, Res.bind_ok, if_true, ap_call, ap_cons, h2, ap_nil, v_sum]
  have mBA : Mat n 163 (pbm B A) := pbm_mat (by omega) mB mA
  have mCB : Mat n 163 (pbm C B) := pbm_mat (by omega) mC mB
  have hthr : ∀ x ∈ thr A r, x.natAbs < 2 ^ 163 := thr_bd (by omega) mA hrow
  have hput := fun c => put_ok (by omega) mB mA (by decide) (by decide) (by decide) c
  have t1 := fun c => through_ok (q := rowT r) (by omega) mA (.inr rfl) hrow (by decide) (by decide) (by decide) c
  have t2 := fun c => through_ok (q := rowT r) (by omega) mBA (.inr rfl) hrow (by decide) (by decide) (by decide) c
  have t3 := fun c => through_ok (q := rowT (thr A r)) (by omega) mB (.inr rfl) hthr (by decide) (by decide) (by decide) c
  have t4 := fun c => through_ok (q := .lst (r.map Pv.int)) (by omega) mA (.inl rfl) hrow (by decide) (by decide) (by decide) c
  have p1 := fun c => put_ok (by omega) mC mBA (by decide) (by decide) (by decide) c
  have p2 := fun c => put_ok (by omega) mC mB (by decide) (by decide) (by decide) c
  have p3 := fun c => put_ok (by omega) mCB mA (by decide) (by decide) (by decide) c
  have q1 : thr (pbm B A) r = thr B (thr A r) := thr_pbm mA mB.row lr
  have q2 : pbm C (pbm B A) = pbm (pbm C B) A := pbm_pbm mC.row mB mA
  have eth : (A.map fun o => Pv.int (dot o r)) = (thr A r).map Pv.int := by unfold thr; rw [List.map_map]; rfl
  rw [eth] at hdue
  rw [q1] at t2
  rw [q2] at p1
  have hlen : ((pbm B A).length : Int) = (n : Int) := by rw [mBA.len]
  obtain ⟨w, L, hw⟩ : ∃ w L, pbm B A = w :: L := by
    cases hp : pbm B A with
    | nil => have := mBA.len; rw [hp] at this; simp at this; omega
    | cons w L => exact ⟨w, L, rfl⟩
  have h0 : L2.atI ((pbm B A).map rowT) 0 = some (rowT w) := L2.atI_nat (j := 0) (by rw [hw]; rfl)
  have hgoal : body_law_1 [x0, some (.int z), x2, x3, x4, x5, x6, x7, x8, x9, x10, x11] cs = .nx [x0, some (.int z), some (.ref cs.length), some (.int (n : Int)), some (matT A), some (matT B), some (matT C), some (rowT r), some (rowT (thr A r)), some (matT (pbm B A)), x10, x11] c6 := by
    simp [body_law_1, e1, e2, hn, e3, e4, e5, e6, hdue, hput, t1, t2, t3, t4, p1, p2, p3, ne_row, ne_mat, is_tup, h0, mBA.len]
  exact ⟨_, _, _, _, _, _, _, _, _, hgoal⟩
theorem cut10 (xs : List Pv) : ∀ v ∈ cut xs none (some 10), v ∈ xs := fun v hv => List.mem_of_mem_drop (List.mem_of_mem_take hv)
theorem lawT : ∀ ns : List Int, ns.length ≤ 63 → (∀ z ∈ ns, Builtin.Int.intBits z ≤ 1048576) → ∃ cs, m_law [.lst (ns.map Pv.int)] [] = .ok (.bl true) cs := by
  intro ns hl hb
  have hit : ∀ v ∈ cut (ns.map Pv.int ++ [Pv.int 0]) none (some 10), ∃ z, v = Pv.int z ∧ Builtin.Int.intBits z ≤ 1048576 := fun v hv => by
    rcases List.mem_append.mp (cut10 _ v hv) with h | h
    · obtain ⟨z, hz, rfl⟩ := List.mem_map.mp h
      exact ⟨z, rfl, hb z hz⟩
    · exact ⟨0, by simpa using h, by decide⟩
  obtain ⟨sl', cs', e, _⟩ := forL_inv (body := gTurn (gN 1) body_law_1) (P := fun sl _ => ∃ x0 x1 x2 x3 x4 x5 x6 x7 x8 x9 x10 x11, sl = [x0, x1, x2, x3, x4, x5, x6, x7, x8, x9, x10, x11]) (cut (ns.map Pv.int ++ [Pv.int 0]) none (some 10)) [some (.lst (ns.map Pv.int)), none, none, none, none, none, none, none, none, none, none, none] [] (fun v hv sl cs p => by
    obtain ⟨z, rfl, hz⟩ := hit v hv
    obtain ⟨x0, x1, x2, x3, x4, x5, x6, x7, x8, x9, x10, x11, rfl⟩ := p
    obtain ⟨y2, y3, y4, y5, y6, y7, y8, y9, cs', e⟩ := turn_ok z hz x0 x2 x3 x4 x5 x6 x7 x8 x9 x10 x11 cs
    exact ⟨_, cs', e, _, _, _, _, _, _, _, _, _, _, _, _, rfl⟩) ⟨_, _, _, _, _, _, _, _, _, _, _, _, rfl⟩
  have hf : fits (ns.length + 1) = true := decide_eq_true (by omega)
  have f1 : fits 1 = true := rfl
  exact ⟨cs', by simp [m_law, body_law, hf, f1, e]⟩
end Lw

set_option Elab.async false
set_option linter.all false
set_option maxRecDepth 100000
open PySem PySem.W PyProof.Rows
set_option maxHeartbeats 0 in
theorem PySem.Challenge.cw_alwayslines_k36_tables_put_behind_holds : PySem.Challenge.rw_alwayslines_k36_tables_put_behind.Holds := by
  w_on; o_law; k_head; (case hw => w_witness2)
  k_fill
  refine L2.walk_ofB (l := PySem.Challenge.rw_alwayslines_k36_tables_put_behind) (n := 63) (k := 4) (x := "_law_script") (CX := fun w => L2.CX PySem.Challenge.pw_alwayslines_k36_tables_put_behind w) (sp := fun w => Lw.spLaw _) rfl (by decide) rfl ⟨rfl, by decide, by decide⟩ (fun w h Y => PySem.W.kIn_of Y) ?F (fun _ _ a ns hl hb _ hS => ⟨a, ns, rfl, hS, hl, hb, fun _ => rfl⟩) (fun _ _ _ _ _ h => AL.noCX h)
  case F =>
    intro w mg fa h KX G hmg
    refine' Lw.all_mk Lw.lawT KX G hmg ?a_law_state ?l_law_state ?c_law_state ?k_law_state ?a_product_sum ?l_product_sum ?c_product_sum ?k_product_sum ?a_put_behind ?l_put_behind ?c_put_behind ?k_put_behind ?a_law_digit ?l_law_digit ?c_law_digit ?k_law_digit ?a_law_great ?l_law_great ?c_law_great ?k_law_great ?a_law_table ?l_law_table ?c_law_table ?k_law_table ?a_through ?l_through ?c_through ?k_through ?a_law ?l_law ?c_law ?k_law ?z_abs ?z_int ?z_sum ?z_zip ?z_tuple ?z_range ?z_len ?z_isinstance ?z_list
    (case a_law_state => k_is); (case l_law_state => k_is); (case c_law_state => k_is); (case k_law_state => k_is); (case a_product_sum => k_is); (case l_product_sum => k_is); (case c_product_sum => k_is); (case k_product_sum => k_is); (case a_put_behind => k_is); (case l_put_behind => k_is); (case c_put_behind => k_is); (case k_put_behind => k_is); (case a_law_digit => k_is); (case l_law_digit => k_is); (case c_law_digit => k_is); (case k_law_digit => k_is); (case a_law_great => k_is); (case l_law_great => k_is); (case c_law_great => k_is); (case k_law_great => k_is); (case a_law_table => k_is); (case l_law_table => k_is); (case c_law_table => k_is); (case k_law_table => k_is); (case a_through => k_is); (case l_through => k_is); (case c_through => k_is); (case k_through => k_is); (case a_law => k_is); (case l_law => k_is); (case c_law => k_is); (case k_law => k_is); (case z_abs => k_is); (case z_int => k_is); (case z_sum => k_is); (case z_zip => k_is); (case z_tuple => k_is); (case z_range => k_is); (case z_len => k_is); (case z_isinstance => k_is); (case z_list => k_is)

