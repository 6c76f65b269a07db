import PyProof.Rows.All
import Wide.All
import OpenK.AllK
import Wide.FinOn
import KE.KStateDown
import HandS.EndBits
import HandS.WordsDict
import HandS.Defaults
import HandS.Head0
import HandS.Head1
import HandS.Head2
import HandS.HeadEnd
import HandS.HeadHook1
import HandS.HeadHook2
import KE.KLam
import HandS.ForMost
import HandS.Exc
import HandS.ExcOwn
import HandS.WordsExc
import HandS.CallSlots
import HandS.Lambda
import HandS.Wide
import HandS.TupAny
import HandS.IsInst
import HandS.Comp
import HandS.Style
import KE.GoesNew
import HandS.Iter
import HandS.ExcInit
import HandS.ExcField
import HandS.TryOnly
import KE.KExcIs
import HandS.Text
import HandS.Flow
import HandS.RaiseMore
import HandS.SortKw
import KE.SortKeyHeap
import HandS.Conv
import HandS.More
import HandS.DictComp
import KE.GoesMore
import HandS.OwnEq
import PyProof.InstNe
import HandS.List
import HandS.Deep
import HandS.TupLe
import KE.KCallOwn
import KE.DataMinMax
import PyProof.NeKinds
import PyProof.EqAt
import KE.SortData
import KE.KDictZip
import KE.GoesZip
import HandS.NoneIn
import HandS.EndTab
import HandS.HeadWalk
import HandS.ExcValue
import PyProof.ListNew
import HandS.TupMul
import PyProof.ListMulRoad
import PyProof.AutoListH
import HandS.SetFor
import HandS.Strs
import HandS.TupSets
import PySem.Challenge.RW_alwayslines_k35_rows_refused
set_option linter.all false
set_option autoImplicit false
namespace AL
open PySem
def S (l : List Nat) : Str := ⟨l.toArray⟩
end AL
set_option Elab.async false
set_option linter.all false
set_option autoImplicit false
set_option maxRecDepth 100000
set_option maxHeartbeats 4000000
namespace AL
open PySem PySem.Spec PyProof.Rows L2
theorem lk_of {K : PySem.W.Frag} {x q : Str} {a : Arguments} {b : List Stmt} {s : Scope} {f : Addr} {fd : FuncData} (F : FunD K x q a b s [] [] f fd) :
    ∃ (oc : Value) (od : Option Addr) (kV dc pm : Value) (an : Option Addr) (cd ct : Value) (sl : Array (Option Value)), K.lookup f = some ⟨oc, od, .func (PySem.W.fnOf x q a b s .none kV dc pm an cd ct), sl⟩ ∧ PySem.W.codeIn K cd q = true ∧ PySem.W.keepIn K (.ref f) = true := by
  obtain ⟨oc, od, dV, kV, dc, pm, an, cd, ct, sl, rfl, lk, hc, hd, _⟩ := F.ex
  rcases hd with ⟨_, rfl⟩ | ⟨e, _⟩
  · exact ⟨oc, od, kV, dc, pm, an, cd, ct, sl, lk, hc, F.kp⟩
  · exact absurd rfl e
/-- a constant of the module -/
def cB (K : PySem.W.Frag) (x : Str) (v : V) : Bool := match PySem.W.nsIn K mainGlobals x with
  | some (some u) => He.relB v u
  | _ => false
theorem cB_ok {K : PySem.W.Frag} {x : Str} {v : V} (h : cB K x v = true) : ∃ u, PySem.W.nsIn K mainGlobals x = some (some u) ∧ RelV v u := by
  unfold cB at h
  split at h
  · rename_i u e
    exact ⟨u, e, He.relB_ok h⟩
  · cases h
/-- an exception class of the module, made over ValueError -/
def xlB (K : PySem.W.Frag) (C : Addr) : Bool := match K.lookup C with
  | some ⟨.type "type", _, .cls cd, sl⟩ => (match cd.mro, sl.toList with
    | .ref A :: bm, [_, _, _, _, some (.builtin n), _] => Nat.beq A C && (n == "ValueError.__new__" && (cd.hasDict && (!cd.hasDel && PySem.HandSPX.refsVE bm)))
    | _, _ => false)
  | _ => false
theorem xlB_ok {K : PySem.W.Frag} {C : Addr} (h : xlB K C = true) : ∃ (nm q : Str) (N : Addr) (bs bm : List Value) (sn : List Str) (sub : List Value) (ab : Bool) (col : Option Bool) (dd : Option Addr) (m0 m1 m2 m3 m5 : Option Value),
    K.lookup C = some (excClassObj nm q C N bs bm true sn sub ab col dd m0 m1 m2 m3 m5 "ValueError.__new__") ∧ PySem.HandSPX.refsVE bm = true := by
  unfold xlB at h
  split at h
  · rename_i dd cd sl ho
    split at h
    · rename_i A bm m0 m1 m2 m3 n m5 hm hs
      simp only [Bool.and_eq_true, beq_iff_eq, Bool.not_eq_true'] at h
      obtain ⟨h1, h2, h3, h4, h5⟩ := h
      have h1 : A = C := Nat.eq_of_beq_eq_true h1
      subst h1 h2
      obtain ⟨nm, bs, mro, ns, qn, hd, sn, sub, ab, col, del⟩ := cd
      dsimp only at hm h3 h4
      subst hm h3 h4
      have e : sl = #[m0, m1, m2, m3, some (.builtin "ValueError.__new__"), m5] := by
        obtain ⟨l⟩ := sl
        simp only at hs
        rw [hs]
      subst e
      exact ⟨nm, qn, ns, bs, bm, sn, sub, ab, col, dd, m0, m1, m2, m3, m5, ho, h5⟩
    · cases h
  · cases h
/-- a run looked at in parts -/
theorem joinR {α A B C D : Type} {X : Option α} {a : α → A} {b : α → B} {c : α → C} {d : α → D} {x : A} {y : B} {z : C} {v : D} (h0 : X.map (fun s => (a s, b s)) = some (x, y)) (h1 : X.map c = some z) (h2 : X.map d = some v) :
    X.map (fun s => (a s, b s, (c s, d s))) = some (x, y, (z, v)) := by
  cases X with
  | none => cases h0
  | some s =>
    have e0 := Option.some.inj h0
    have e1 : c s = z := Option.some.inj h1
    have e2 : d s = v := Option.some.inj h2
    have ea : a s = x := congrArg Prod.fst e0
    have eb : b s = y := congrArg Prod.snd e0
    show some (a s, b s, (c s, d s)) = _
    rw [ea, eb, e1, e2]
theorem joinB {α : Type} {X : Option α} {f g : α → Bool} (h1 : X.map f = some true) (h2 : X.map g = some true) : X.map (fun s => f s && g s) = some true := by
  cases X with
  | none => cases h1
  | some s =>
    have e1 : f s = true := Option.some.inj h1
    have e2 : g s = true := Option.some.inj h2
    show some (f s && g s) = _
    rw [e1, e2]
    rfl
def frK (n : Nat) (s : PySem.W.SharedT) : PySem.W.Frag := He.frG (HandSHeadRun.getT s) (He.asD (HandSHeadRun.getT s) n)
end AL
set_option Elab.async false
set_option linter.all false
set_option autoImplicit false
set_option maxRecDepth 100000
set_option maxHeartbeats 4000000
namespace AL
open PySem PySem.Spec PyProof.Rows L2
open HandSHeadRun in
def addF {α : Type} : List Addr → Nat → List Addr → (Nat → List Addr → α) → α
  | [], m, acc, k => k m acc
  | b :: r, m, acc, k => frNat b fun b => match Nat.beq (Nat.land (Nat.shiftRight m b) 1) 0 with
    | true => frNat (Nat.lor m (Nat.shiftLeft 1 b)) fun m => addF r m (b :: acc) k
    | false => addF r m acc k
def allF {α : Type} (g : Addr → Option Obj) : List Addr → Nat → List Addr → (Nat → List Addr → α) → α
  | [], m, acc, k => k m acc
  | a :: r, m, acc, k => match g a with
    | some o => addF (He.refsD o) m acc fun m acc => allF g r m acc k
    | none => allF g r m acc k
def asF (g : Addr → Option Obj) : Nat → List Addr → Nat → List Addr
  | 0, fr, _ => fr
  | n + 1, fr, m => fr ++ allF g fr m [] fun m acc => asF g n acc m
def frF (g : Addr → Option Obj) (n : Nat) : PySem.W.Frag := He.frG g (asF g n [mainGlobals] (Nat.shiftLeft 1 mainGlobals))
open HandSHeadRun in
def fAdF {α : Type} (K : PySem.W.Frag) (p : Str × Option Str) (k : Addr → α) : α := match p.2 with
  | none => frNat (He.ga K p.1) k
  | some m => frNat (He.ga K p.1) fun c => frNat (He.ma K c m) k
open HandSHeadRun in
theorem fAdF_eq {α : Type} (K : PySem.W.Frag) (p : Str × Option Str) (k : Addr → α) : fAdF K p k = k (He.fAd K p) := by
  obtain ⟨x, q⟩ := p
  cases q with
  | none => exact frNat_eq _ k
  | some m =>
    show frNat (He.ga K x) (fun c => frNat (He.ma K c m) k) = _
    rw [frNat_eq, frNat_eq]
    rfl
def okA (K : PySem.W.Frag) (d : He.DefD) (a : Addr) : Bool := PySem.W.keepIn K (.ref a) && (match K.lookup a with
  | some ⟨_, _, .func fd, _⟩ => PySem.W.codeIn K fd.code d.qual && (He.dflB K fd.defaults (d.dvs K) && He.kwdB K fd.kwdefaults (d.kws K))
  | _ => false)
def fnA (K : PySem.W.Frag) (a : Addr) : He.FnW := match K.lookup a with
  | some ⟨_, _, .func fd, _⟩ => some (fd.name, fd.qualname, fd.params, fd.body, fd.scope, fd.globals, fd.closure, fd.builtins)
  | _ => none
def obsF (fn : List He.DefD) (K : PySem.W.Frag) : He.AlD := (fn.all fun d => fAdF K d.at_ (okA K d), fn.map fun d => fAdF K d.at_ (fnA K))
theorem obsF_eq (fn : List He.DefD) (K : PySem.W.Frag) : obsF fn K = He.obsD [] fn K := by
  have e1 : (fun d : He.DefD => fAdF K d.at_ (okA K d)) = fun d => d.ok K := funext fun d => fAdF_eq K d.at_ _
  have e2 : (fun d : He.DefD => fAdF K d.at_ (fnA K)) = fun d => He.fnW K d.at_ := funext fun d => fAdF_eq K d.at_ _
  unfold obsF He.obsD
  rw [e1, e2]
  rfl
end AL
set_option Elab.async false
set_option linter.all false
set_option autoImplicit false
set_option maxRecDepth 100000
set_option maxHeartbeats 4000000
namespace AL
open PySem PySem.Spec PyProof.Rows L2
/-- a def's code object, its table, the name of the code in it -/
def tabF (K : PySem.W.Frag) (x : Str) : Option (Addr × Addr × Str) := match PySem.W.nsIn K mainGlobals x with
  | some (some (.ref f)) => (match K.lookup f with
    | some ⟨_, _, .func fd, _⟩ => (match fd.code with
      | .ref c => (match K.lookup c with
        | some ⟨_, _, .fields vs, _⟩ => (match (vs[11]? : Option Value) with
          | some (.ref P) => some (c, P, (fd.qualname ++ ".<locals>.") ++ "<lambda>")
          | _ => none)
        | _ => none)
      | _ => none)
    | _ => none)
  | _ => none
def tabNames : List Str := []
def tabsF (K : PySem.W.Frag) : List (Addr × Addr × Str) := tabNames.filterMap (tabF K)
def tabsC (K : PySem.W.Frag) : List (Addr × Addr) := (tabsF K).map fun t => (t.1, t.2.1)
def codeB (K : PySem.W.Frag) (c P : Addr) : Bool := match K.lookup c with
  | some ⟨.type t, _, .fields vs, _⟩ => (t == "code") && ((match (vs[11]? : Option Value), vs.getD 11 .none with
    | some (.ref a), .ref b => Nat.beq a P && Nat.beq b P
    | _, _ => false) && ((match vs.getD 18 .none, vs.getD 7 .none, vs.getD 9 .none, vs.getD 10 .none with
    | .str _ _, .int _ _, .bool _, .int _ _ => true
    | _, _, _, _ => false) && !Nat.beq c P))
  | _ => false
theorem codeB_ok {K : PySem.W.Frag} {h : Heap} {c P : Addr} (X : K.In h) (b : codeB K c P = true) : PySem.W.CodeHd h c P := by
  unfold codeB at b
  split at b
  · rename_i t od vs sl ho
    simp only [Bool.and_eq_true, beq_iff_eq, Bool.not_eq_true'] at b
    obtain ⟨h1, h2, h3, h4⟩ := b
    subst h1
    split at h2
    · rename_i a b2 e1 e2
      simp only [Bool.and_eq_true] at h2
      have ea := Nat.eq_of_beq_eq_true h2.1
      have eb := Nat.eq_of_beq_eq_true h2.2
      subst ea eb
      split at h3
      · rename_i file tf flags tg inF text tt f1 f2 f3 f4
        refine ⟨_, vs, file, tf, flags, tg, inF, text, tt, X _ _ ho, rfl, rfl, e1, e2, f1, f2, f3, f4, fun z => ?_⟩
        rw [z, Nat.beq_refl] at h4
        cases h4
      · cases h3
    · cases h2
  · cases b
def tblB (o : Option Obj) : Bool := match o with
  | some ⟨.none, none, .fields vs, sl⟩ => vs.toList.isEmpty && sl.toList.isEmpty
  | _ => false
theorem tblB_ok {o : Option Obj} (h : tblB o = true) : o = some { cls := .none, data := .fields #[] } := by
  unfold tblB at h
  split at h
  · rename_i vs sl
    obtain ⟨⟨l⟩⟩ := vs
    all_goals
      obtain ⟨l2⟩ := sl
      simp only [Bool.and_eq_true, List.isEmpty_iff] at h
      obtain ⟨h1, h2⟩ := h
      simp_all
  · cases h
open HandSHeadRun in
def frP {α : Type} : List (Addr × Addr) → (List (Addr × Addr) → α) → α
  | [], k => k []
  | p :: r, k => frNat p.1 fun a => frNat p.2 fun b => frP r fun r => k ((a, b) :: r)
open HandSHeadRun in
theorem frP_eq {α : Type} : ∀ (l : List (Addr × Addr)) (k : List (Addr × Addr) → α), frP l k = k l
  | [], k => rfl
  | p :: r, k => by
    show frNat p.1 (fun a => frNat p.2 fun b => frP r fun r => k ((a, b) :: r)) = _
    rw [frNat_eq, frNat_eq, frP_eq]
def tabsB (g : Addr → Option Obj) (K : PySem.W.Frag) : Bool := frP (tabsC K) fun l => l.all fun p => tblB (g p.2) && (codeB K p.1 p.2 && (K.lookup p.2).isNone)
open HandSHeadRun in
def maskP {α : Type} : List (Addr × Addr) → Nat → (Nat → α) → α
  | [], m, k => k m
  | p :: r, m, k => frNat p.2 fun b => frNat (Nat.lor m (Nat.shiftLeft 1 b)) fun m => maskP r m k
/-- the objects reached, without the tables -/
def asTb (g : Addr → Option Obj) (n : Nat) : List Addr := maskP (tabsC (frF g 2)) (Nat.shiftLeft 1 mainGlobals) fun m => asF g n [mainGlobals] m
def frT (g : Addr → Option Obj) (n : Nat) : PySem.W.Frag := He.frG g (asTb g n ++ [cStatics, sysModules])
def obsM (n : Nat) (fn : List He.DefD) (ex : PySem.W.Frag → Bool) (g : Addr → Option Obj) : He.AlD × Bool := (He.obsD [] fn (frT g n), ex (frT g n) && tabsB g (frT g n))
def SaysM (fn : List He.DefD) (ex : PySem.W.Frag → Bool) (h : Heap) : Prop := ∃ K : PySem.W.Frag, K.In h ∧ He.SaysD [] fn K ∧ ex K = true ∧ ∀ p ∈ tabsC K, h.get? p.2 = some { cls := .none, data := .fields #[] } ∧ codeB K p.1 p.2 = true ∧ K.lookup p.2 = none
def hookM (n : Nat) (fn : List He.DefD) (ex : PySem.W.Frag → Bool) : PySem.W.Hook where
  α := He.AlD × Bool
  obs := fun s => obsM n fn ex s.heap.get?
  val := fun _ => (He.valD fn, true)
  says := fun _ h => SaysM fn ex h
  of := fun _ s e => by
    have e2 : (ex (frT s.heap.get? n) && tabsB s.heap.get? (frT s.heap.get? n)) = true := congrArg Prod.snd e
    obtain ⟨h1, h2⟩ := Bool.and_eq_true_iff.mp e2
    refine ⟨frT s.heap.get? n, He.frG_in, congrArg Prod.fst e, h1, fun p hp => ?_⟩
    unfold tabsB at h2
    rw [frP_eq] at h2
    have h3 := List.all_eq_true.mp h2 p hp
    simp only [Bool.and_eq_true, Option.isNone_iff_eq_none] at h3
    exact ⟨tblB_ok h3.1, h3.2.1, h3.2.2⟩
  keeps := fun _ _ _ ⟨K, hK, c, c2, c3⟩ k => ⟨K, PySem.W.Frag.In.keeps hK k, c, c2, fun p hp => ⟨k _ _ (c3 p hp).1, (c3 p hp).2⟩⟩
theorem obsM_eq {n : Nat} {fn : List He.DefD} {ex : PySem.W.Frag → Bool} (s : PySem.W.SharedT) : obsM n fn ex (HandSHeadRun.getT s) = (hookM n fn ex).obs s.abs := by
  have e : HandSHeadRun.getT s = s.abs.heap.get? := funext (HandSHeadRun.getT_eq s)
  rw [e]
  rfl
def frM (n : Nat) (s : PySem.W.SharedT) : PySem.W.Frag := frT (HandSHeadRun.getT s) n
theorem runFM {X : Option PySem.W.SharedT} {n : Nat} {fn : List He.DefD} (h : X.map (fun s => obsF fn (frM n s)) = some (He.valD fn)) : X.map (fun s => He.obsD [] fn (frM n s)) = some (He.valD fn) := by
  rw [← h]
  congr 1
  funext s
  exact (obsF_eq fn _).symm
end AL
set_option Elab.async false
set_option linter.all false
set_option autoImplicit false
set_option maxRecDepth 100000
set_option maxHeartbeats 0
namespace Lw
open PySem PySem.Spec PyProof.Rows L2 AL
def topS (i : Nat) : Stmt := PySem.Challenge.pw_alwayslines_k35_rows_refused.main.body.getD i (.Pass ⟨0, 0, 0, 0⟩)
abbrev st_BadCount : Stmt := inClass (topS 3) 0
abbrev st_NoName : Stmt := inClass (topS 4) 0
abbrev st_Twice : Stmt := inClass (topS 5) 0
abbrev st_NoNumber : Stmt := inClass (topS 6) 0
abbrev st_NoPart : Stmt := inClass (topS 7) 0
abbrev st_law_state : Stmt := topS 49
abbrev st_law_digit : Stmt := topS 50
abbrev st_law_name : Stmt := topS 51
abbrev st_law_names : Stmt := topS 52
abbrev st_law_terms : Stmt := topS 53
abbrev st_law_sorted : Stmt := topS 54
abbrev st_law_due : Stmt := topS 55
abbrev st_asked_degree : Stmt := topS 23
abbrev st_Program_names : Stmt := inClass (topS 46) 2
abbrev st_asked_names_of : Stmt := topS 26
abbrev st_products : Stmt := topS 24
abbrev st_columns : Stmt := topS 25
abbrev st_Form_degree : Stmt := inClass (topS 21) 1
abbrev st_row_of : Stmt := topS 27
abbrev st_law_found : Stmt := topS 56
abbrev st_is_name : Stmt := topS 14
abbrev st_asked_names : Stmt := topS 15
abbrev st_asked_once : Stmt := topS 16
abbrev st_asked_some : Stmt := topS 42
abbrev st_measured : Stmt := topS 36
abbrev st_asked_sizes : Stmt := topS 43
abbrev st_names_in : Stmt := topS 45
abbrev st_all_within : Stmt := topS 44
abbrev st_Program_statements : Stmt := inClass (topS 46) 1
abbrev st_Program___init__ : Stmt := inClass (topS 46) 0
abbrev st_in_order : Stmt := topS 20
abbrev st_Form___init__ : Stmt := inClass (topS 21) 0
abbrev st_Body___init__ : Stmt := inClass (topS 33) 0
abbrev st_law : Stmt := topS 57
end Lw
set_option Elab.async false
set_option linter.all false
set_option autoImplicit false
set_option maxRecDepth 100000
set_option maxHeartbeats 0
namespace Lw
open PySem PySem.Spec PyProof.Rows L2 AL
def dd0 : He.DefD := ⟨("_law_state", none), "_law_state", "_law_state", defArgs st_law_state, defBody st_law_state, defScope st_law_state, [], []⟩
def dd1 : He.DefD := ⟨("_law_digit", none), "_law_digit", "_law_digit", defArgs st_law_digit, defBody st_law_digit, defScope st_law_digit, [], []⟩
def dd2 : He.DefD := ⟨("_law_name", none), "_law_name", "_law_name", defArgs st_law_name, defBody st_law_name, defScope st_law_name, [], []⟩
def dd3 : He.DefD := ⟨("_law_names", none), "_law_names", "_law_names", defArgs st_law_names, defBody st_law_names, defScope st_law_names, [], []⟩
def dd4 : He.DefD := ⟨("_law_terms", none), "_law_terms", "_law_terms", defArgs st_law_terms, defBody st_law_terms, defScope st_law_terms, [], []⟩
def dd5 : He.DefD := ⟨("_law_sorted", none), "_law_sorted", "_law_sorted", defArgs st_law_sorted, defBody st_law_sorted, defScope st_law_sorted, [], []⟩
def dd6 : He.DefD := ⟨("_law_due", none), "_law_due", "_law_due", defArgs st_law_due, defBody st_law_due, defScope st_law_due, [], []⟩
def dd7 : He.DefD := ⟨("asked_degree", none), "asked_degree", "asked_degree", defArgs st_asked_degree, defBody st_asked_degree, defScope st_asked_degree, [], []⟩
def dd8 : He.DefD := ⟨("Program", some "names"), "names", "Program.names", defArgs st_Program_names, defBody st_Program_names, defScope st_Program_names, [], []⟩
def dd9 : He.DefD := ⟨("asked_names_of", none), "asked_names_of", "asked_names_of", defArgs st_asked_names_of, defBody st_asked_names_of, defScope st_asked_names_of, [], []⟩
def dd10 : He.DefD := ⟨("products", none), "products", "products", defArgs st_products, defBody st_products, defScope st_products, [], []⟩
def dd11 : He.DefD := ⟨("columns", none), "columns", "columns", defArgs st_columns, defBody st_columns, defScope st_columns, [], []⟩
def dd12 : He.DefD := ⟨("Form", some "degree"), "degree", "Form.degree", defArgs st_Form_degree, defBody st_Form_degree, defScope st_Form_degree, [], []⟩
def dd13 : He.DefD := ⟨("row_of", none), "row_of", "row_of", defArgs st_row_of, defBody st_row_of, defScope st_row_of, [], []⟩
def dd14 : He.DefD := ⟨("_law_found", none), "_law_found", "_law_found", defArgs st_law_found, defBody st_law_found, defScope st_law_found, [], []⟩
def dd15 : He.DefD := ⟨("is_name", none), "is_name", "is_name", defArgs st_is_name, defBody st_is_name, defScope st_is_name, [], []⟩
def dd16 : He.DefD := ⟨("asked_names", none), "asked_names", "asked_names", defArgs st_asked_names, defBody st_asked_names, defScope st_asked_names, [], []⟩
def dd17 : He.DefD := ⟨("asked_once", none), "asked_once", "asked_once", defArgs st_asked_once, defBody st_asked_once, defScope st_asked_once, [], []⟩
def dd18 : He.DefD := ⟨("asked_some", none), "asked_some", "asked_some", defArgs st_asked_some, defBody st_asked_some, defScope st_asked_some, [], []⟩
def dd19 : He.DefD := ⟨("measured", none), "measured", "measured", defArgs st_measured, defBody st_measured, defScope st_measured, [], []⟩
def dd20 : He.DefD := ⟨("asked_sizes", none), "asked_sizes", "asked_sizes", defArgs st_asked_sizes, defBody st_asked_sizes, defScope st_asked_sizes, [], []⟩
def dd21 : He.DefD := ⟨("names_in", none), "names_in", "names_in", defArgs st_names_in, defBody st_names_in, defScope st_names_in, [], []⟩
def dd22 : He.DefD := ⟨("all_within", none), "all_within", "all_within", defArgs st_all_within, defBody st_all_within, defScope st_all_within, [], []⟩
def dd23 : He.DefD := ⟨("Program", some "statements"), "statements", "Program.statements", defArgs st_Program_statements, defBody st_Program_statements, defScope st_Program_statements, [], []⟩
def dd24 : He.DefD := ⟨("Program", some "__init__"), "__init__", "Program.__init__", defArgs st_Program___init__, defBody st_Program___init__, defScope st_Program___init__, [], []⟩
def dd25 : He.DefD := ⟨("in_order", none), "in_order", "in_order", defArgs st_in_order, defBody st_in_order, defScope st_in_order, [], []⟩
def dd26 : He.DefD := ⟨("Form", some "__init__"), "__init__", "Form.__init__", defArgs st_Form___init__, defBody st_Form___init__, defScope st_Form___init__, [], []⟩
def dd27 : He.DefD := ⟨("Body", some "__init__"), "__init__", "Body.__init__", defArgs st_Body___init__, defBody st_Body___init__, defScope st_Body___init__, [], []⟩
def dd28 : He.DefD := ⟨("law", none), "law", "law", defArgs st_law, defBody st_law, defScope st_law, [], []⟩
def dd29 : He.DefD := ⟨("BadCount", some "__init__"), "__init__", "BadCount.__init__", defArgs st_BadCount, defBody st_BadCount, defScope st_BadCount, [], []⟩
def dd30 : He.DefD := ⟨("NoName", some "__init__"), "__init__", "NoName.__init__", defArgs st_NoName, defBody st_NoName, defScope st_NoName, [], []⟩
def dd31 : He.DefD := ⟨("Twice", some "__init__"), "__init__", "Twice.__init__", defArgs st_Twice, defBody st_Twice, defScope st_Twice, [], []⟩
def dd32 : He.DefD := ⟨("NoNumber", some "__init__"), "__init__", "NoNumber.__init__", defArgs st_NoNumber, defBody st_NoNumber, defScope st_NoNumber, [], []⟩
def dd33 : He.DefD := ⟨("NoPart", some "__init__"), "__init__", "NoPart.__init__", defArgs st_NoPart, defBody st_NoPart, defScope st_NoPart, [], []⟩
def ddP0 : List He.DefD := [dd0, dd1, dd2, dd3, dd4, dd5, dd6, dd7, dd8, dd9, dd10, dd11, dd12, dd13, dd14, dd15, dd16, dd17, dd18, dd19, dd20, dd21, dd22, dd23, dd24, dd25, dd26, dd27, dd28, dd29, dd30, dd31, dd32, dd33]
def ddL : List He.DefD := ddP0
def okP0 (K : PySem.W.Frag) (z0 z1 z2 z3 z4 z5 z6 z7 z9 z10 z11 z12 : Addr) : Prop := (PySem.W.nsIn K mainGlobals "_law_state" = some (some (.ref z0))) ∧ (PySem.W.nsIn K mainGlobals "_law_digit" = some (some (.ref z1))) ∧ (PySem.W.nsIn K mainGlobals "_law_name" = some (some (.ref z2))) ∧ (PySem.W.nsIn K mainGlobals "_law_names" = some (some (.ref z3))) ∧ (PySem.W.nsIn K mainGlobals "_law_terms" = some (some (.ref z4))) ∧ (PySem.W.nsIn K mainGlobals "_law_sorted" = some (some (.ref z5))) ∧ (PySem.W.nsIn K mainGlobals "_law_due" = some (some (.ref z6))) ∧ (PySem.W.nsIn K mainGlobals "asked_degree" = some (some (.ref z7))) ∧ (PySem.W.isFn K (.ref z9) = true) ∧ (PySem.W.nsIn K mainGlobals "asked_names_of" = some (some (.ref z10))) ∧ (PySem.W.nsIn K mainGlobals "products" = some (some (.ref z11))) ∧ (PySem.W.nsIn K mainGlobals "columns" = some (some (.ref z12)))
instance okI0 (K : PySem.W.Frag) (z0 z1 z2 z3 z4 z5 z6 z7 z9 z10 z11 z12 : Addr) : Decidable (okP0 K z0 z1 z2 z3 z4 z5 z6 z7 z9 z10 z11 z12) := by unfold okP0; infer_instance
def okP1 (K : PySem.W.Frag) (z14 z15 z16 z17 z18 z19 z20 z21 z22 z23 z24 z25 : Addr) : Prop := (PySem.W.isFn K (.ref z14) = true) ∧ (PySem.W.nsIn K mainGlobals "row_of" = some (some (.ref z15))) ∧ (PySem.W.nsIn K mainGlobals "_law_found" = some (some (.ref z16))) ∧ (PySem.W.nsIn K mainGlobals "is_name" = some (some (.ref z17))) ∧ (PySem.W.nsIn K mainGlobals "asked_names" = some (some (.ref z18))) ∧ (PySem.W.nsIn K mainGlobals "asked_once" = some (some (.ref z19))) ∧ (PySem.W.nsIn K mainGlobals "asked_some" = some (some (.ref z20))) ∧ (PySem.W.nsIn K mainGlobals "measured" = some (some (.ref z21))) ∧ (PySem.W.nsIn K mainGlobals "asked_sizes" = some (some (.ref z22))) ∧ (PySem.W.nsIn K mainGlobals "names_in" = some (some (.ref z23))) ∧ (PySem.W.nsIn K mainGlobals "all_within" = some (some (.ref z24))) ∧ (PySem.W.isFn K (.ref z25) = true)
instance okI1 (K : PySem.W.Frag) (z14 z15 z16 z17 z18 z19 z20 z21 z22 z23 z24 z25 : Addr) : Decidable (okP1 K z14 z15 z16 z17 z18 z19 z20 z21 z22 z23 z24 z25) := by unfold okP1; infer_instance
def okP2 (K : PySem.W.Frag) (z8 z13 z26 z27 z28 z29 z30 z31 z32 z33 z34 : Addr) : Prop := (PySem.W.isFn K (.ref z26) = true) ∧ (PySem.W.nsIn K mainGlobals "in_order" = some (some (.ref z27))) ∧ (PySem.W.isFn K (.ref z28) = true) ∧ (PySem.W.isFn K (.ref z30) = true) ∧ (PySem.W.nsIn K mainGlobals "law" = some (some (.ref z31))) ∧ (PySem.W.nsIn K mainGlobals "Form" = some (some (.ref z13))) ∧ (PySem.W.nsIn K mainGlobals "Put" = some (some (.ref z32))) ∧ (PySem.W.nsIn K mainGlobals "Any" = some (some (.ref z33))) ∧ (PySem.W.nsIn K mainGlobals "Call" = some (some (.ref z34))) ∧ (PySem.W.nsIn K mainGlobals "Body" = some (some (.ref z29))) ∧ (PySem.W.nsIn K mainGlobals "Program" = some (some (.ref z8))) ∧ (PySem.W.plainGet K z13 Str.empty = true)
instance okI2 (K : PySem.W.Frag) (z8 z13 z26 z27 z28 z29 z30 z31 z32 z33 z34 : Addr) : Decidable (okP2 K z8 z13 z26 z27 z28 z29 z30 z31 z32 z33 z34) := by unfold okP2; infer_instance
def okP3 (K : PySem.W.Frag) (z13 z14 z28 z32 z33 : Addr) : Prop := (PySem.W.hasDictIn K z13 = true) ∧ (PySem.W.plainOver K z13 = true) ∧ (PySem.W.findIn K (.ref z13) "__setattr__" = some (some (.builtin "object.__setattr__"))) ∧ (PySem.W.makesIn K z13 = true) ∧ (PySem.W.keepIn K (.ref z13) = true) ∧ (PySem.W.findIn K (.ref z13) "degree" = some (some (.ref z14))) ∧ (PySem.W.findIn K (.ref z13) "__init__" = some (some (.ref z28))) ∧ (PySem.W.findIn K (.ref z13) "terms" = some none) ∧ (PySem.W.findIn K (.ref z13) "__class__" = some (some (.builtin "object.__class__"))) ∧ (PySem.W.mroIn K z13 (.type "object") = some true) ∧ (PySem.W.kitOne K (.ref z13) (.ref z33) = some false) ∧ (PySem.W.kitOne K (.ref z13) (.ref z32) = some false)
instance okI3 (K : PySem.W.Frag) (z13 z14 z28 z32 z33 : Addr) : Decidable (okP3 K z13 z14 z28 z32 z33) := by unfold okP3; infer_instance
def okP4 (K : PySem.W.Frag) (z13 z29 z30 z33 z34 : Addr) : Prop := (PySem.W.kitOne K (.ref z13) (.ref z34) = some false) ∧ (PySem.W.plainGet K z29 Str.empty = true) ∧ (PySem.W.hasDictIn K z29 = true) ∧ (PySem.W.plainOver K z29 = true) ∧ (PySem.W.findIn K (.ref z29) "__setattr__" = some (some (.builtin "object.__setattr__"))) ∧ (PySem.W.makesIn K z29 = true) ∧ (PySem.W.keepIn K (.ref z29) = true) ∧ (PySem.W.findIn K (.ref z29) "__init__" = some (some (.ref z30))) ∧ (PySem.W.findIn K (.ref z29) "row" = some none) ∧ (PySem.W.findIn K (.ref z29) "__class__" = some (some (.builtin "object.__class__"))) ∧ (PySem.W.mroIn K z29 (.type "object") = some true) ∧ (PySem.W.kitOne K (.ref z29) (.ref z33) = some false)
instance okI4 (K : PySem.W.Frag) (z13 z29 z30 z33 z34 : Addr) : Decidable (okP4 K z13 z29 z30 z33 z34) := by unfold okP4; infer_instance
def okP5 (K : PySem.W.Frag) (z8 z9 z25 z26 z29 z32 z34 : Addr) : Prop := (PySem.W.kitOne K (.ref z29) (.ref z32) = some false) ∧ (PySem.W.kitOne K (.ref z29) (.ref z34) = some false) ∧ (PySem.W.plainGet K z8 Str.empty = true) ∧ (PySem.W.hasDictIn K z8 = true) ∧ (PySem.W.plainOver K z8 = true) ∧ (PySem.W.findIn K (.ref z8) "__setattr__" = some (some (.builtin "object.__setattr__"))) ∧ (PySem.W.makesIn K z8 = true) ∧ (PySem.W.keepIn K (.ref z8) = true) ∧ (PySem.W.findIn K (.ref z8) "names" = some (some (.ref z9))) ∧ (PySem.W.findIn K (.ref z8) "statements" = some (some (.ref z25))) ∧ (PySem.W.findIn K (.ref z8) "__init__" = some (some (.ref z26))) ∧ (PySem.W.findIn K (.ref z8) "number_names" = some none)
instance okI5 (K : PySem.W.Frag) (z8 z9 z25 z26 z29 z32 z34 : Addr) : Decidable (okP5 K z8 z9 z25 z26 z29 z32 z34) := by unfold okP5; infer_instance
def okP6 (K : PySem.W.Frag) (z8 z32 z33 z34 : Addr) : Prop := (PySem.W.findIn K (.ref z8) "bodies" = some none) ∧ (PySem.W.findIn K (.ref z8) "__class__" = some (some (.builtin "object.__class__"))) ∧ (PySem.W.mroIn K z8 (.type "object") = some true) ∧ (PySem.W.kitOne K (.ref z8) (.ref z33) = some false) ∧ (PySem.W.kitOne K (.ref z8) (.ref z32) = some false) ∧ (PySem.W.kitOne K (.ref z8) (.ref z34) = some false) ∧ (PySem.W.kitOne K (.type "NoneType") (.ref z33) = some false) ∧ (PySem.W.kitOne K (.type "bool") (.ref z33) = some false) ∧ (PySem.W.kitOne K (.type "int") (.ref z33) = some false) ∧ (PySem.W.kitOne K (.type "str") (.ref z33) = some false) ∧ (PySem.W.kitOne K (.type "tuple") (.ref z33) = some false) ∧ (PySem.W.kitOne K (.type "list") (.ref z33) = some false)
instance okI6 (K : PySem.W.Frag) (z8 z32 z33 z34 : Addr) : Decidable (okP6 K z8 z32 z33 z34) := by unfold okP6; infer_instance
def okP7 (K : PySem.W.Frag) (z32 z34 : Addr) : Prop := (PySem.W.kitOne K (.type "NoneType") (.ref z32) = some false) ∧ (PySem.W.kitOne K (.type "bool") (.ref z32) = some false) ∧ (PySem.W.kitOne K (.type "int") (.ref z32) = some false) ∧ (PySem.W.kitOne K (.type "str") (.ref z32) = some false) ∧ (PySem.W.kitOne K (.type "tuple") (.ref z32) = some false) ∧ (PySem.W.kitOne K (.type "list") (.ref z32) = some false) ∧ (PySem.W.kitOne K (.type "NoneType") (.ref z34) = some false) ∧ (PySem.W.kitOne K (.type "bool") (.ref z34) = some false) ∧ (PySem.W.kitOne K (.type "int") (.ref z34) = some false) ∧ (PySem.W.kitOne K (.type "str") (.ref z34) = some false) ∧ (PySem.W.kitOne K (.type "tuple") (.ref z34) = some false) ∧ (PySem.W.kitOne K (.type "list") (.ref z34) = some false)
instance okI7 (K : PySem.W.Frag) (z32 z34 : Addr) : Decidable (okP7 K z32 z34) := by unfold okP7; infer_instance
def okP8 (K : PySem.W.Frag) (z35 z36 z37 z38 z39 z40 : Addr) : Prop := (PySem.W.nsIn K mainGlobals "LineError" = some (some (.ref z35))) ∧ (PySem.W.nsIn K mainGlobals "BadCount" = some (some (.ref z36))) ∧ (PySem.W.nsIn K mainGlobals "NoName" = some (some (.ref z37))) ∧ (PySem.W.nsIn K mainGlobals "Twice" = some (some (.ref z38))) ∧ (PySem.W.nsIn K mainGlobals "NoNumber" = some (some (.ref z39))) ∧ (PySem.W.nsIn K mainGlobals "NoPart" = some (some (.ref z40))) ∧ (PySem.W.subIn K (.ref z35) (.type "BaseException") = some true) ∧ (PySem.W.typeIn K (.ref z35) = some (.type "type")) ∧ (PySem.W.isClsIn K z35 = true) ∧ (PySem.W.subIn K (.ref z36) (.type "BaseException") = some true) ∧ (PySem.W.typeIn K (.ref z36) = some (.type "type")) ∧ (PySem.W.isClsIn K z36 = true)
instance okI8 (K : PySem.W.Frag) (z35 z36 z37 z38 z39 z40 : Addr) : Decidable (okP8 K z35 z36 z37 z38 z39 z40) := by unfold okP8; infer_instance
def okP9 (K : PySem.W.Frag) (z37 z38 z39 z40 : Addr) : Prop := (PySem.W.subIn K (.ref z37) (.type "BaseException") = some true) ∧ (PySem.W.typeIn K (.ref z37) = some (.type "type")) ∧ (PySem.W.isClsIn K z37 = true) ∧ (PySem.W.subIn K (.ref z38) (.type "BaseException") = some true) ∧ (PySem.W.typeIn K (.ref z38) = some (.type "type")) ∧ (PySem.W.isClsIn K z38 = true) ∧ (PySem.W.subIn K (.ref z39) (.type "BaseException") = some true) ∧ (PySem.W.typeIn K (.ref z39) = some (.type "type")) ∧ (PySem.W.isClsIn K z39 = true) ∧ (PySem.W.subIn K (.ref z40) (.type "BaseException") = some true) ∧ (PySem.W.typeIn K (.ref z40) = some (.type "type")) ∧ (PySem.W.isClsIn K z40 = true)
instance okI9 (K : PySem.W.Frag) (z37 z38 z39 z40 : Addr) : Decidable (okP9 K z37 z38 z39 z40) := by unfold okP9; infer_instance
def okP10 (K : PySem.W.Frag) (z35 z36 z41 : Addr) : Prop := (PySem.W.findIn K (.ref z36) "__setattr__" = some (some (.builtin "object.__setattr__"))) ∧ (PySem.W.findIn K (.ref z36) "__getattribute__" = some (some (.builtin "BaseException.__getattribute__"))) ∧ (PySem.W.findIn K (.ref z36) "__getattr__" = some none) ∧ (PySem.W.keepIn K (.ref z36) = true) ∧ (PySem.W.hasDictIn K z36 = true) ∧ (PySem.W.findIn K (.ref z36) "__init__" = some (some (.ref z41))) ∧ (PySem.W.typeIn K (.ref z41) = some (.type "function")) ∧ (PySem.W.findIn K (.ref z36) "what" = some none) ∧ (PySem.W.findIn K (.ref z36) "count" = some none) ∧ (PySem.W.findIn K (.ref z36) "__class__" = some (some (.builtin "object.__class__"))) ∧ (PySem.W.mroIn K z36 (.type "object") = some true) ∧ (PySem.W.subIn K (.ref z36) (.ref z35) = some true)
instance okI10 (K : PySem.W.Frag) (z35 z36 z41 : Addr) : Decidable (okP10 K z35 z36 z41) := by unfold okP10; infer_instance
def okP11 (K : PySem.W.Frag) (z35 z36 z37 z39 : Addr) : Prop := (PySem.W.kitOne K (.ref z36) (.ref z35) = some true) ∧ (PySem.W.subIn K (.ref z36) (.ref z36) = some true) ∧ (PySem.W.kitOne K (.ref z36) (.ref z36) = some true) ∧ (PySem.W.subIn K (.ref z36) (.ref z37) = some false) ∧ (PySem.W.kitOne K (.ref z36) (.ref z37) = some false) ∧ (PySem.W.subIn K (.ref z36) (.ref z39) = some false) ∧ (PySem.W.kitOne K (.ref z36) (.ref z39) = some false) ∧ (PySem.W.kitOne K (.ref z36) (.type "ValueError") = some true) ∧ (PySem.W.findIn K (.ref z37) "__setattr__" = some (some (.builtin "object.__setattr__"))) ∧ (PySem.W.findIn K (.ref z37) "__getattribute__" = some (some (.builtin "BaseException.__getattribute__"))) ∧ (PySem.W.findIn K (.ref z37) "__getattr__" = some none) ∧ (PySem.W.keepIn K (.ref z37) = true)
instance okI11 (K : PySem.W.Frag) (z35 z36 z37 z39 : Addr) : Decidable (okP11 K z35 z36 z37 z39) := by unfold okP11; infer_instance
def okP12 (K : PySem.W.Frag) (z35 z36 z37 z42 : Addr) : Prop := (PySem.W.hasDictIn K z37 = true) ∧ (PySem.W.findIn K (.ref z37) "__init__" = some (some (.ref z42))) ∧ (PySem.W.typeIn K (.ref z42) = some (.type "function")) ∧ (PySem.W.findIn K (.ref z37) "name" = some none) ∧ (PySem.W.findIn K (.ref z37) "__class__" = some (some (.builtin "object.__class__"))) ∧ (PySem.W.mroIn K z37 (.type "object") = some true) ∧ (PySem.W.subIn K (.ref z37) (.ref z35) = some true) ∧ (PySem.W.kitOne K (.ref z37) (.ref z35) = some true) ∧ (PySem.W.subIn K (.ref z37) (.ref z36) = some false) ∧ (PySem.W.kitOne K (.ref z37) (.ref z36) = some false) ∧ (PySem.W.subIn K (.ref z37) (.ref z37) = some true) ∧ (PySem.W.kitOne K (.ref z37) (.ref z37) = some true)
instance okI12 (K : PySem.W.Frag) (z35 z36 z37 z42 : Addr) : Decidable (okP12 K z35 z36 z37 z42) := by unfold okP12; infer_instance
def okP13 (K : PySem.W.Frag) (z37 z38 z39 z43 : Addr) : Prop := (PySem.W.subIn K (.ref z37) (.ref z39) = some false) ∧ (PySem.W.kitOne K (.ref z37) (.ref z39) = some false) ∧ (PySem.W.kitOne K (.ref z37) (.type "ValueError") = some true) ∧ (PySem.W.findIn K (.ref z38) "__setattr__" = some (some (.builtin "object.__setattr__"))) ∧ (PySem.W.findIn K (.ref z38) "__getattribute__" = some (some (.builtin "BaseException.__getattribute__"))) ∧ (PySem.W.findIn K (.ref z38) "__getattr__" = some none) ∧ (PySem.W.keepIn K (.ref z38) = true) ∧ (PySem.W.hasDictIn K z38 = true) ∧ (PySem.W.findIn K (.ref z38) "__init__" = some (some (.ref z43))) ∧ (PySem.W.typeIn K (.ref z43) = some (.type "function")) ∧ (PySem.W.findIn K (.ref z38) "name" = some none) ∧ (PySem.W.findIn K (.ref z38) "__class__" = some (some (.builtin "object.__class__")))
instance okI13 (K : PySem.W.Frag) (z37 z38 z39 z43 : Addr) : Decidable (okP13 K z37 z38 z39 z43) := by unfold okP13; infer_instance
def okP14 (K : PySem.W.Frag) (z35 z36 z37 z38 z39 : Addr) : Prop := (PySem.W.mroIn K z38 (.type "object") = some true) ∧ (PySem.W.subIn K (.ref z38) (.ref z35) = some true) ∧ (PySem.W.kitOne K (.ref z38) (.ref z35) = some true) ∧ (PySem.W.subIn K (.ref z38) (.ref z36) = some false) ∧ (PySem.W.kitOne K (.ref z38) (.ref z36) = some false) ∧ (PySem.W.subIn K (.ref z38) (.ref z37) = some false) ∧ (PySem.W.kitOne K (.ref z38) (.ref z37) = some false) ∧ (PySem.W.subIn K (.ref z38) (.ref z39) = some false) ∧ (PySem.W.kitOne K (.ref z38) (.ref z39) = some false) ∧ (PySem.W.kitOne K (.ref z38) (.type "ValueError") = some true) ∧ (PySem.W.findIn K (.ref z39) "__setattr__" = some (some (.builtin "object.__setattr__"))) ∧ (PySem.W.findIn K (.ref z39) "__getattribute__" = some (some (.builtin "BaseException.__getattribute__")))
instance okI14 (K : PySem.W.Frag) (z35 z36 z37 z38 z39 : Addr) : Decidable (okP14 K z35 z36 z37 z38 z39) := by unfold okP14; infer_instance
def okP15 (K : PySem.W.Frag) (z35 z36 z39 z44 : Addr) : Prop := (PySem.W.findIn K (.ref z39) "__getattr__" = some none) ∧ (PySem.W.keepIn K (.ref z39) = true) ∧ (PySem.W.hasDictIn K z39 = true) ∧ (PySem.W.findIn K (.ref z39) "__init__" = some (some (.ref z44))) ∧ (PySem.W.typeIn K (.ref z44) = some (.type "function")) ∧ (PySem.W.findIn K (.ref z39) "name" = some none) ∧ (PySem.W.findIn K (.ref z39) "__class__" = some (some (.builtin "object.__class__"))) ∧ (PySem.W.mroIn K z39 (.type "object") = some true) ∧ (PySem.W.subIn K (.ref z39) (.ref z35) = some true) ∧ (PySem.W.kitOne K (.ref z39) (.ref z35) = some true) ∧ (PySem.W.subIn K (.ref z39) (.ref z36) = some false) ∧ (PySem.W.kitOne K (.ref z39) (.ref z36) = some false)
instance okI15 (K : PySem.W.Frag) (z35 z36 z39 z44 : Addr) : Decidable (okP15 K z35 z36 z39 z44) := by unfold okP15; infer_instance
def okP16 (K : PySem.W.Frag) (z37 z39 z40 z45 : Addr) : Prop := (PySem.W.subIn K (.ref z39) (.ref z37) = some false) ∧ (PySem.W.kitOne K (.ref z39) (.ref z37) = some false) ∧ (PySem.W.subIn K (.ref z39) (.ref z39) = some true) ∧ (PySem.W.kitOne K (.ref z39) (.ref z39) = some true) ∧ (PySem.W.kitOne K (.ref z39) (.type "ValueError") = some true) ∧ (PySem.W.findIn K (.ref z40) "__setattr__" = some (some (.builtin "object.__setattr__"))) ∧ (PySem.W.findIn K (.ref z40) "__getattribute__" = some (some (.builtin "BaseException.__getattribute__"))) ∧ (PySem.W.findIn K (.ref z40) "__getattr__" = some none) ∧ (PySem.W.keepIn K (.ref z40) = true) ∧ (PySem.W.hasDictIn K z40 = true) ∧ (PySem.W.findIn K (.ref z40) "__init__" = some (some (.ref z45))) ∧ (PySem.W.typeIn K (.ref z45) = some (.type "function"))
instance okI16 (K : PySem.W.Frag) (z37 z39 z40 z45 : Addr) : Decidable (okP16 K z37 z39 z40 z45) := by unfold okP16; infer_instance
def okP17 (K : PySem.W.Frag) (z35 z36 z37 z39 z40 : Addr) : Prop := (PySem.W.findIn K (.ref z40) "name" = some none) ∧ (PySem.W.findIn K (.ref z40) "__class__" = some (some (.builtin "object.__class__"))) ∧ (PySem.W.mroIn K z40 (.type "object") = some true) ∧ (PySem.W.subIn K (.ref z40) (.ref z35) = some true) ∧ (PySem.W.kitOne K (.ref z40) (.ref z35) = some true) ∧ (PySem.W.subIn K (.ref z40) (.ref z36) = some false) ∧ (PySem.W.kitOne K (.ref z40) (.ref z36) = some false) ∧ (PySem.W.subIn K (.ref z40) (.ref z37) = some false) ∧ (PySem.W.kitOne K (.ref z40) (.ref z37) = some false) ∧ (PySem.W.subIn K (.ref z40) (.ref z39) = some false) ∧ (PySem.W.kitOne K (.ref z40) (.ref z39) = some false) ∧ (PySem.W.kitOne K (.ref z40) (.type "ValueError") = some true)
instance okI17 (K : PySem.W.Frag) (z35 z36 z37 z39 z40 : Addr) : Decidable (okP17 K z35 z36 z37 z39 z40) := by unfold okP17; infer_instance
def okP18 (K : PySem.W.Frag) : Prop := (PySem.W.specialIn K (.builtin "object.__class__") "__get__" = some (some (.builtin "getset_descriptor.__get__"))) ∧ (PySem.W.takesIn K (.builtin "object.__class__") = some true) ∧ (PySem.W.nsIn K mainGlobals "abs" = some none) ∧ (PySem.W.nsIn K mainGlobals "int" = some none) ∧ (PySem.W.nsIn K mainGlobals "range" = some none) ∧ (PySem.W.nsIn K mainGlobals "str" = some none) ∧ (PySem.W.nsIn K mainGlobals "len" = some none) ∧ (PySem.W.nsIn K mainGlobals "sorted" = some none) ∧ (PySem.W.nsIn K mainGlobals "set" = some none) ∧ (PySem.W.nsIn K mainGlobals "tuple" = some none) ∧ (PySem.W.nsIn K mainGlobals "list" = some none) ∧ (PySem.W.nsIn K mainGlobals "max" = some none)
instance okI18 (K : PySem.W.Frag) : Decidable (okP18 K) := by unfold okP18; infer_instance
def okP19 (K : PySem.W.Frag) : Prop := (PySem.W.nsIn K mainGlobals "enumerate" = some none) ∧ (PySem.W.nsIn K mainGlobals "isinstance" = some none) ∧ (PySem.W.nsIn K mainGlobals "all" = some none) ∧ (PySem.W.nsIn K mainGlobals "sum" = some none) ∧ (PySem.W.nsIn K mainGlobals "ValueError" = some none)
instance okI19 (K : PySem.W.Frag) : Decidable (okP19 K) := by unfold okP19; infer_instance
def exK0 (K : PySem.W.Frag) : Bool := HandSHeadRun.frNat (He.ga K "_law_state") fun z0 => HandSHeadRun.frNat (He.ga K "_law_digit") fun z1 => HandSHeadRun.frNat (He.ga K "_law_name") fun z2 => HandSHeadRun.frNat (He.ga K "_law_names") fun z3 => HandSHeadRun.frNat (He.ga K "_law_terms") fun z4 => HandSHeadRun.frNat (He.ga K "_law_sorted") fun z5 => HandSHeadRun.frNat (He.ga K "_law_due") fun z6 => HandSHeadRun.frNat (He.ga K "asked_degree") fun z7 => HandSHeadRun.frNat (He.ga K "Program") fun z8 => HandSHeadRun.frNat (He.ma K z8 "names") fun z9 => HandSHeadRun.frNat (He.ga K "asked_names_of") fun z10 => HandSHeadRun.frNat (He.ga K "products") fun z11 => HandSHeadRun.frNat (He.ga K "columns") fun z12 => HandSHeadRun.frNat (He.ga K "Form") fun z13 => HandSHeadRun.frNat (He.ma K z13 "degree") fun z14 => HandSHeadRun.frNat (He.ga K "row_of") fun z15 => HandSHeadRun.frNat (He.ga K "_law_found") fun z16 => HandSHeadRun.frNat (He.ga K "is_name") fun z17 => HandSHeadRun.frNat (He.ga K "asked_names") fun z18 => HandSHeadRun.frNat (He.ga K "asked_once") fun z19 => HandSHeadRun.frNat (He.ga K "asked_some") fun z20 => HandSHeadRun.frNat (He.ga K "measured") fun z21 => HandSHeadRun.frNat (He.ga K "asked_sizes") fun z22 => HandSHeadRun.frNat (He.ga K "names_in") fun z23 => HandSHeadRun.frNat (He.ga K "all_within") fun z24 => HandSHeadRun.frNat (He.ma K z8 "statements") fun z25 => HandSHeadRun.frNat (He.ma K z8 "__init__") fun z26 => HandSHeadRun.frNat (He.ga K "in_order") fun z27 => HandSHeadRun.frNat (He.ma K z13 "__init__") fun z28 => HandSHeadRun.frNat (He.ga K "Body") fun z29 => HandSHeadRun.frNat (He.ma K z29 "__init__") fun z30 => HandSHeadRun.frNat (He.ga K "law") fun z31 => HandSHeadRun.frNat (He.ga K "Put") fun z32 => HandSHeadRun.frNat (He.ga K "Any") fun z33 => HandSHeadRun.frNat (He.ga K "Call") fun z34 => HandSHeadRun.frNat (He.ga K "LineError") fun z35 => HandSHeadRun.frNat (He.ga K "BadCount") fun z36 => HandSHeadRun.frNat (He.ga K "NoName") fun z37 => HandSHeadRun.frNat (He.ga K "Twice") fun z38 => HandSHeadRun.frNat (He.ga K "NoNumber") fun z39 => HandSHeadRun.frNat (He.ga K "NoPart") fun z40 => HandSHeadRun.frNat (He.ma K z36 "__init__") fun z41 => HandSHeadRun.frNat (He.ma K z37 "__init__") fun z42 => HandSHeadRun.frNat (He.ma K z38 "__init__") fun z43 => HandSHeadRun.frNat (He.ma K z39 "__init__") fun z44 => HandSHeadRun.frNat (He.ma K z40 "__init__") fun z45 => [decide (okP0 K z0 z1 z2 z3 z4 z5 z6 z7 z9 z10 z11 z12), decide (okP1 K z14 z15 z16 z17 z18 z19 z20 z21 z22 z23 z24 z25), decide (okP2 K z8 z13 z26 z27 z28 z29 z30 z31 z32 z33 z34), decide (okP3 K z13 z14 z28 z32 z33), decide (okP4 K z13 z29 z30 z33 z34), decide (okP5 K z8 z9 z25 z26 z29 z32 z34), decide (okP6 K z8 z32 z33 z34), decide (okP7 K z32 z34), decide (okP8 K z35 z36 z37 z38 z39 z40), decide (okP9 K z37 z38 z39 z40), decide (okP10 K z35 z36 z41), decide (okP11 K z35 z36 z37 z39), decide (okP12 K z35 z36 z37 z42), decide (okP13 K z37 z38 z39 z43), decide (okP14 K z35 z36 z37 z38 z39), decide (okP15 K z35 z36 z39 z44), decide (okP16 K z37 z39 z40 z45), decide (okP17 K z35 z36 z37 z39 z40), decide (okP18 K), decide (okP19 K), cB K "LETTERS" (.str (S [97, 98, 99, 100, 101, 102, 103, 104, 105, 106, 107, 108, 109, 110, 111, 112, 113, 114, 115, 116, 117, 118, 119, 120, 121, 122])), cB K "FIGURES" (.str (S [48, 49, 50, 51, 52, 53, 54, 55, 56, 57])), cB K "LONGEST" (.int 8), cB K "MOST_NAMES" (.int 2), cB K "MOST_NUMBERS" (.int 3), cB K "MOST_PARTS" (.int 4), cB K "MOST_STATEMENTS" (.int 20), cB K "MOST_DEEP" (.int 5), xlB K z36, xlB K z37, xlB K z38, xlB K z39, xlB K z40].all id
theorem exK0_eq (K : PySem.W.Frag) : exK0 K = [decide (okP0 K (He.ga K "_law_state") (He.ga K "_law_digit") (He.ga K "_law_name") (He.ga K "_law_names") (He.ga K "_law_terms") (He.ga K "_law_sorted") (He.ga K "_law_due") (He.ga K "asked_degree") (He.ma K (He.ga K "Program") "names") (He.ga K "asked_names_of") (He.ga K "products") (He.ga K "columns")), decide (okP1 K (He.ma K (He.ga K "Form") "degree") (He.ga K "row_of") (He.ga K "_law_found") (He.ga K "is_name") (He.ga K "asked_names") (He.ga K "asked_once") (He.ga K "asked_some") (He.ga K "measured") (He.ga K "asked_sizes") (He.ga K "names_in") (He.ga K "all_within") (He.ma K (He.ga K "Program") "statements")), decide (okP2 K (He.ga K "Program") (He.ga K "Form") (He.ma K (He.ga K "Program") "__init__") (He.ga K "in_order") (He.ma K (He.ga K "Form") "__init__") (He.ga K "Body") (He.ma K (He.ga K "Body") "__init__") (He.ga K "law") (He.ga K "Put") (He.ga K "Any") (He.ga K "Call")), decide (okP3 K (He.ga K "Form") (He.ma K (He.ga K "Form") "degree") (He.ma K (He.ga K "Form") "__init__") (He.ga K "Put") (He.ga K "Any")), decide (okP4 K (He.ga K "Form") (He.ga K "Body") (He.ma K (He.ga K "Body") "__init__") (He.ga K "Any") (He.ga K "Call")), decide (okP5 K (He.ga K "Program") (He.ma K (He.ga K "Program") "names") (He.ma K (He.ga K "Program") "statements") (He.ma K (He.ga K "Program") "__init__") (He.ga K "Body") (He.ga K "Put") (He.ga K "Call")), decide (okP6 K (He.ga K "Program") (He.ga K "Put") (He.ga K "Any") (He.ga K "Call")), decide (okP7 K (He.ga K "Put") (He.ga K "Call")), decide (okP8 K (He.ga K "LineError") (He.ga K "BadCount") (He.ga K "NoName") (He.ga K "Twice") (He.ga K "NoNumber") (He.ga K "NoPart")), decide (okP9 K (He.ga K "NoName") (He.ga K "Twice") (He.ga K "NoNumber") (He.ga K "NoPart")), decide (okP10 K (He.ga K "LineError") (He.ga K "BadCount") (He.ma K (He.ga K "BadCount") "__init__")), decide (okP11 K (He.ga K "LineError") (He.ga K "BadCount") (He.ga K "NoName") (He.ga K "NoNumber")), decide (okP12 K (He.ga K "LineError") (He.ga K "BadCount") (He.ga K "NoName") (He.ma K (He.ga K "NoName") "__init__")), decide (okP13 K (He.ga K "NoName") (He.ga K "Twice") (He.ga K "NoNumber") (He.ma K (He.ga K "Twice") "__init__")), decide (okP14 K (He.ga K "LineError") (He.ga K "BadCount") (He.ga K "NoName") (He.ga K "Twice") (He.ga K "NoNumber")), decide (okP15 K (He.ga K "LineError") (He.ga K "BadCount") (He.ga K "NoNumber") (He.ma K (He.ga K "NoNumber") "__init__")), decide (okP16 K (He.ga K "NoName") (He.ga K "NoNumber") (He.ga K "NoPart") (He.ma K (He.ga K "NoPart") "__init__")), decide (okP17 K (He.ga K "LineError") (He.ga K "BadCount") (He.ga K "NoName") (He.ga K "NoNumber") (He.ga K "NoPart")), decide (okP18 K), decide (okP19 K), cB K "LETTERS" (.str (S [97, 98, 99, 100, 101, 102, 103, 104, 105, 106, 107, 108, 109, 110, 111, 112, 113, 114, 115, 116, 117, 118, 119, 120, 121, 122])), cB K "FIGURES" (.str (S [48, 49, 50, 51, 52, 53, 54, 55, 56, 57])), cB K "LONGEST" (.int 8), cB K "MOST_NAMES" (.int 2), cB K "MOST_NUMBERS" (.int 3), cB K "MOST_PARTS" (.int 4), cB K "MOST_STATEMENTS" (.int 20), cB K "MOST_DEEP" (.int 5), xlB K (He.ga K "BadCount"), xlB K (He.ga K "NoName"), xlB K (He.ga K "Twice"), xlB K (He.ga K "NoNumber"), xlB K (He.ga K "NoPart")].all id := by unfold exK0; simp only [HandSHeadRun.frNat_eq]
theorem exK0_at {K : PySem.W.Frag} (h : exK0 K = true) {b : Bool} {i : Nat} (e : ([decide (okP0 K (He.ga K "_law_state") (He.ga K "_law_digit") (He.ga K "_law_name") (He.ga K "_law_names") (He.ga K "_law_terms") (He.ga K "_law_sorted") (He.ga K "_law_due") (He.ga K "asked_degree") (He.ma K (He.ga K "Program") "names") (He.ga K "asked_names_of") (He.ga K "products") (He.ga K "columns")), decide (okP1 K (He.ma K (He.ga K "Form") "degree") (He.ga K "row_of") (He.ga K "_law_found") (He.ga K "is_name") (He.ga K "asked_names") (He.ga K "asked_once") (He.ga K "asked_some") (He.ga K "measured") (He.ga K "asked_sizes") (He.ga K "names_in") (He.ga K "all_within") (He.ma K (He.ga K "Program") "statements")), decide (okP2 K (He.ga K "Program") (He.ga K "Form") (He.ma K (He.ga K "Program") "__init__") (He.ga K "in_order") (He.ma K (He.ga K "Form") "__init__") (He.ga K "Body") (He.ma K (He.ga K "Body") "__init__") (He.ga K "law") (He.ga K "Put") (He.ga K "Any") (He.ga K "Call")), decide (okP3 K (He.ga K "Form") (He.ma K (He.ga K "Form") "degree") (He.ma K (He.ga K "Form") "__init__") (He.ga K "Put") (He.ga K "Any")), decide (okP4 K (He.ga K "Form") (He.ga K "Body") (He.ma K (He.ga K "Body") "__init__") (He.ga K "Any") (He.ga K "Call")), decide (okP5 K (He.ga K "Program") (He.ma K (He.ga K "Program") "names") (He.ma K (He.ga K "Program") "statements") (He.ma K (He.ga K "Program") "__init__") (He.ga K "Body") (He.ga K "Put") (He.ga K "Call")), decide (okP6 K (He.ga K "Program") (He.ga K "Put") (He.ga K "Any") (He.ga K "Call")), decide (okP7 K (He.ga K "Put") (He.ga K "Call")), decide (okP8 K (He.ga K "LineError") (He.ga K "BadCount") (He.ga K "NoName") (He.ga K "Twice") (He.ga K "NoNumber") (He.ga K "NoPart")), decide (okP9 K (He.ga K "NoName") (He.ga K "Twice") (He.ga K "NoNumber") (He.ga K "NoPart")), decide (okP10 K (He.ga K "LineError") (He.ga K "BadCount") (He.ma K (He.ga K "BadCount") "__init__")), decide (okP11 K (He.ga K "LineError") (He.ga K "BadCount") (He.ga K "NoName") (He.ga K "NoNumber")), decide (okP12 K (He.ga K "LineError") (He.ga K "BadCount") (He.ga K "NoName") (He.ma K (He.ga K "NoName") "__init__")), decide (okP13 K (He.ga K "NoName") (He.ga K "Twice") (He.ga K "NoNumber") (He.ma K (He.ga K "Twice") "__init__")), decide (okP14 K (He.ga K "LineError") (He.ga K "BadCount") (He.ga K "NoName") (He.ga K "Twice") (He.ga K "NoNumber")), decide (okP15 K (He.ga K "LineError") (He.ga K "BadCount") (He.ga K "NoNumber") (He.ma K (He.ga K "NoNumber") "__init__")), decide (okP16 K (He.ga K "NoName") (He.ga K "NoNumber") (He.ga K "NoPart") (He.ma K (He.ga K "NoPart") "__init__")), decide (okP17 K (He.ga K "LineError") (He.ga K "BadCount") (He.ga K "NoName") (He.ga K "NoNumber") (He.ga K "NoPart")), decide (okP18 K), decide (okP19 K), cB K "LETTERS" (.str (S [97, 98, 99, 100, 101, 102, 103, 104, 105, 106, 107, 108, 109, 110, 111, 112, 113, 114, 115, 116, 117, 118, 119, 120, 121, 122])), cB K "FIGURES" (.str (S [48, 49, 50, 51, 52, 53, 54, 55, 56, 57])), cB K "LONGEST" (.int 8), cB K "MOST_NAMES" (.int 2), cB K "MOST_NUMBERS" (.int 3), cB K "MOST_PARTS" (.int 4), cB K "MOST_STATEMENTS" (.int 20), cB K "MOST_DEEP" (.int 5), xlB K (He.ga K "BadCount"), xlB K (He.ga K "NoName"), xlB K (He.ga K "Twice"), xlB K (He.ga K "NoNumber"), xlB K (He.ga K "NoPart")] : List Bool)[i]? = some b) : b = true := List.all_eq_true.mp ((exK0_eq K).symm.trans h) b (List.mem_of_getElem? e)
def exK (K : PySem.W.Frag) : Bool := exK0 K
def nm0 : List Str := [PySem.Str.ofString "_wall", PySem.Str.ofString "LineError", PySem.Str.ofString "BadCount", PySem.Str.ofString "NoName", PySem.Str.ofString "Twice", PySem.Str.ofString "NoNumber", PySem.Str.ofString "NoPart", PySem.Str.ofString "LETTERS", PySem.Str.ofString "FIGURES", PySem.Str.ofString "LONGEST", PySem.Str.ofString "STEP", PySem.Str.ofString "STEP_FIGURES", PySem.Str.ofString "is_name", PySem.Str.ofString "asked_names", PySem.Str.ofString "asked_once", PySem.Str.ofString "all_figures", PySem.Str.ofString "MOST_NAMES", PySem.Str.ofString "in_order", PySem.Str.ofString "Form", PySem.Str.ofString "asked_degree", PySem.Str.ofString "products", PySem.Str.ofString "columns", PySem.Str.ofString "asked_names_of", PySem.Str.ofString "row_of", PySem.Str.ofString "Statement", PySem.Str.ofString "Put", PySem.Str.ofString "Any", PySem.Str.ofString "Call", PySem.Str.ofString "Body", PySem.Str.ofString "parts_of"]
def nm1 : List Str := [PySem.Str.ofString "are_same", PySem.Str.ofString "measured", PySem.Str.ofString "MOST_NUMBERS", PySem.Str.ofString "MOST_PARTS", PySem.Str.ofString "MOST_STATEMENTS", PySem.Str.ofString "MOST_DEEP", PySem.Str.ofString "asked_some", PySem.Str.ofString "asked_sizes", PySem.Str.ofString "all_within", PySem.Str.ofString "names_in", PySem.Str.ofString "Program", PySem.Str.ofString "_law_cell_at", PySem.Str.ofString "_law_state", PySem.Str.ofString "_law_digit", PySem.Str.ofString "_law_name", PySem.Str.ofString "_law_names", PySem.Str.ofString "_law_terms", PySem.Str.ofString "_law_sorted", PySem.Str.ofString "_law_due", PySem.Str.ofString "_law_found"]
def nmL : List Str := nm0 ++ nm1
abbrev RR : PySem.W.OpenRow := PySem.W.OpenLaw.row PySem.Challenge.rw_alwayslines_k35_rows_refused
abbrev hk : PySem.W.Hook := hookM 5 ddL exK
def obK (s : PySem.W.SharedT) : He.AlD × Bool := obsM 5 ddL exK (HandSHeadRun.getT s)
section
open PySem.W PySem.Calls HandSHeadRun
noncomputable abbrev XX (w : World) (os : OsState) := endF (stepQ (denQ tabQ) RR.prog w) 20000 RR.prog w os
theorem run0 (w : World) (os : OsState) : (XX w os).map (fun s => (looksF RR.prog (boot_heap w.params) s.abs, seenQ (PySem.W.view RR.prog [57]) nmL (importedModules RR.prog.main.body) (fun s => xlAt (PySem.W.view RR.prog [57]) [] s && recOk RR.toRowW.records s) s.abs)) = some (true, openGood (PySem.W.view RR.prog [57]) nmL) := by kernel_rfl
theorem runD0 (w : World) (os : OsState) : (XX w os).map (fun s => He.obsD [] ddP0 (frM 5 s)) = some (He.valD ddP0) := runFM (by kernel_rfl)
theorem runP0 (w : World) (os : OsState) : (XX w os).map (fun s => exK0 (frM 5 s)) = some true := by kernel_rfl
end
theorem runT (w : World) (os : OsState) : (XX w os).map (fun s => tabsB (HandSHeadRun.getT s) (frM 5 s)) = some true := by kernel_rfl
theorem runK (w : World) : HandSHeadRun.RunEq RR (PySem.W.view RR.prog [57]) hk obK 20000 nmL w := fun os => joinR (run0 w os) (runD0 w os) (joinB (runP0 w os) (runT w os))
end Lw
set_option Elab.async false
set_option linter.all false
set_option autoImplicit false
set_option maxRecDepth 100000
set_option maxHeartbeats 4000000
namespace AL
open PySem PySem.Spec PyProof.Rows L2
/-- plain values: what never changes stands inline; ref k is the k-th mutable cell -/
inductive Pv where
  | non | bl (b : Bool) | int (i : Int) | str (x : Str)
  | tup (xs : List Pv) | lst (xs : List Pv) | ref (k : Nat)
  | obj (c : Str) (fs : List (Str × Pv)) | glo (x : Str) | ty (n : String)
  | dk (kvs : List (Key × Pv)) | dt (kvs : List (List Key × Pv)) | zk (kvs : List (Key × Pv)) | zt (kvs : List (List Key × Pv))
inductive Co where
  | lst (xs : List Pv) | ins (c : Str) (fs : List (Str × Pv)) | dK (kvs : List (Key × Pv)) | dT (kvs : List (List Key × Pv)) | dead
abbrev Cells := List Co
abbrev Sl := List (Option Pv)
def Ex (H H' : Hp) : Prop := ∀ a o, H a = some o → H' a = some o
theorem Ex.refl (H : Hp) : Ex H H := fun _ _ h => h
theorem Ex.trans {H H1 H2 : Hp} (a : Ex H H1) (b : Ex H1 H2) : Ex H H2 := fun x o h => b x o (a x o h)
theorem Ex.upd {H : Hp} {p : Addr} {o : HO} (h : H p = none) : Ex H (upd H p o) := fun a u e => by
  rw [upd_ne (ne_of_none e h)]
  exact e
theorem Ex.none {H H' : Hp} {p : Addr} (e : Ex H H') (h : H' p = none) : H p = none := by
  cases q : H p with
  | none => rfl
  | some o => rw [e p o q] at h; cases h
theorem Ex.rd {H H' : Hp} {a : Addr} {u : HO} (e : Ex H H') (h : Rd H a u) : Rd H' a u := by
  rcases h with h | ⟨o, h⟩
  · exact Or.inl (e a _ h)
  · exact Or.inr ⟨o, e a _ h⟩
theorem Ex.l {K : PySem.W.Frag} {H H' : Hp} {a : Addr} {xs : List V} (e : Ex H H') (h : SqL K H a xs) : SqL K H' a xs := by
  rcases h with h | h
  · exact Or.inl (e.rd h)
  · exact Or.inr h
theorem Ex.t {K : PySem.W.Frag} {H H' : Hp} {a : Addr} {xs : List V} (e : Ex H H') (h : SqT K H a xs) : SqT K H' a xs := by
  rcases h with h | h
  · exact Or.inl (e.rd h)
  · exact Or.inr h
section
variable (K : PySem.W.Frag) (mg : Str → Option Value)
mutual
inductive RepV (U : Hp) (μ : List Addr) : Pv → V → Prop
  | non : RepV U μ .non .non
  | bl (b : Bool) : RepV U μ (.bl b) (.bl b)
  | int (i : Int) : RepV U μ (.int i) (.int i)
  | str (x : Str) : RepV U μ (.str x) (.str x)
  | tup {a : Addr} {xs : List V} {ps : List Pv} : U a = some (.tup xs) → RepVs U μ ps xs → RepV U μ (.tup ps) (.ref a)
  | lst {a : Addr} {xs : List V} {ps : List Pv} : SqL K U a xs → RepVs U μ ps xs → RepV U μ (.lst ps) (.ref a)
  | ref {k : Nat} {a : Addr} : μ[k]? = some a → RepV U μ (.ref k) (.ref a)
  | obj {c : Str} {C a dx : Addr} {fs : List (Str × Pv)} {ws : List (Str × V)} : mg c = some (.ref C) → U a = some (.ins C dx ws) → fs.map (·.1) = ws.map (·.1) → RepVs U μ (fs.map (·.2)) (ws.map (·.2)) → RepV U μ (.obj c fs) (.ref a)
  | glo {x : Str} {f : Addr} : mg x = some (.ref f) → RepV U μ (.glo x) (.ref f)
  | ty (n : String) : RepV U μ (.ty n) (.ty n)
  | dk {a : Addr} {kvs : List (Key × Pv)} {ws : List (Key × V)} : U a = some (.dK ws) → kvs.map (·.1) = ws.map (·.1) → RepVs U μ (kvs.map (·.2)) (ws.map (·.2)) → RepV U μ (.dk kvs) (.ref a)
  | dt {a : Addr} {kvs : List (List Key × Pv)} {ws : List (List Key × V)} : U a = some (.dT ws) → kvs.map (·.1) = ws.map (·.1) → RepVs U μ (kvs.map (·.2)) (ws.map (·.2)) → RepV U μ (.dt kvs) (.ref a)
  | zk {ob : Obj} {a : Addr} {kvs : List (Key × Pv)} {ws : List (Key × V)} : U a = some (.frz ob (.dK ws)) → kvs.map (·.1) = ws.map (·.1) → RepVs U μ (kvs.map (·.2)) (ws.map (·.2)) → RepV U μ (.zk kvs) (.ref a)
  | zt {ob : Obj} {a : Addr} {kvs : List (List Key × Pv)} {ws : List (List Key × V)} : U a = some (.frz ob (.dT ws)) → kvs.map (·.1) = ws.map (·.1) → RepVs U μ (kvs.map (·.2)) (ws.map (·.2)) → RepV U μ (.zt kvs) (.ref a)
inductive RepVs (U : Hp) (μ : List Addr) : List Pv → List V → Prop
  | nil : RepVs U μ [] []
  | cons {p : Pv} {v : V} {ps : List Pv} {vs : List V} : RepV U μ p v → RepVs U μ ps vs → RepVs U μ (p :: ps) (v :: vs)
end
end
section
variable {K : PySem.W.Frag} {mg : Str → Option Value} {U U' : Hp} {μ μ' : List Addr}
theorem pre_get {μ μ' : List Addr} (m : μ <+: μ') {k : Nat} {a : Addr} (h : μ[k]? = some a) : μ'[k]? = some a := by
  obtain ⟨t, rfl⟩ := m
  rw [List.getElem?_append_left (List.getElem?_eq_some_iff.mp h).1]
  exact h
mutual
theorem RepV.mono (e : Ex U U') (m : μ <+: μ') : ∀ {p : Pv} {v : V}, RepV K mg U μ p v → RepV K mg U' μ' p v
  | _, _, .non => .non
  | _, _, .bl b => .bl b
  | _, _, .int i => .int i
  | _, _, .str x => .str x
  | _, _, .tup s r => .tup (e _ _ s) (RepVs.mono e m r)
  | _, _, .lst s r => .lst (e.l s) (RepVs.mono e m r)
  | _, _, .ref h => .ref (pre_get m h)
  | _, _, .obj g h n r => .obj g (e _ _ h) n (RepVs.mono e m r)
  | _, _, .glo h => .glo h
  | _, _, .ty n => .ty n
  | _, _, .dk h n r => .dk (e _ _ h) n (RepVs.mono e m r)
  | _, _, .dt h n r => .dt (e _ _ h) n (RepVs.mono e m r)
  | _, _, .zk h n r => .zk (e _ _ h) n (RepVs.mono e m r)
  | _, _, .zt h n r => .zt (e _ _ h) n (RepVs.mono e m r)
theorem RepVs.mono (e : Ex U U') (m : μ <+: μ') : ∀ {ps : List Pv} {vs : List V}, RepVs K mg U μ ps vs → RepVs K mg U' μ' ps vs
  | _, _, .nil => .nil
  | _, _, .cons h r => .cons (RepV.mono e m h) (RepVs.mono e m r)
end
theorem RepVs.length : ∀ {ps : List Pv} {vs : List V}, RepVs K mg U μ ps vs → ps.length = vs.length
  | _, _, .nil => rfl
  | _, _, .cons _ r => by rw [List.length_cons, List.length_cons, RepVs.length r]
theorem RepVs.get : ∀ {ps : List Pv} {vs : List V} {i : Nat} {v : V}, RepVs K mg U μ ps vs → vs[i]? = some v → ∃ p, ps[i]? = some p ∧ RepV K mg U μ p v
  | _, _, _, _, .nil, h => by simp at h
  | _, _, 0, _, .cons h _, e => by
    simp at e; subst e; exact ⟨_, rfl, h⟩
  | _, _, i + 1, _, .cons _ r, e => by
    obtain ⟨p, h1, h2⟩ := RepVs.get (i := i) r (by simpa using e)
    exact ⟨p, by simpa using h1, h2⟩
theorem RepVs.at : ∀ {ps : List Pv} {vs : List V} {i : Nat} {p : Pv}, RepVs K mg U μ ps vs → ps[i]? = some p → ∃ v, vs[i]? = some v ∧ RepV K mg U μ p v
  | _, _, _, _, .nil, h => by simp at h
  | _, _, 0, _, .cons h _, e => by
    simp at e; subst e; exact ⟨_, rfl, h⟩
  | _, _, i + 1, _, .cons _ r, e => by
    obtain ⟨p, h1, h2⟩ := RepVs.at (i := i) r (by simpa using e)
    exact ⟨p, by simpa using h1, h2⟩
theorem RepVs.append : ∀ {ps qs : List Pv} {vs ws : List V}, RepVs K mg U μ ps vs → RepVs K mg U μ qs ws → RepVs K mg U μ (ps ++ qs) (vs ++ ws)
  | _, _, _, _, .nil, s => s
  | _, _, _, _, .cons h r, s => .cons h (RepVs.append r s)
theorem RepVs.set {p : Pv} {v : V} (h : RepV K mg U μ p v) : ∀ {ps : List Pv} {vs : List V} (i : Nat), RepVs K mg U μ ps vs → RepVs K mg U μ (ps.set i p) (vs.set i v)
  | _, _, _, .nil => .nil
  | _, _, 0, .cons _ r => .cons h r
  | _, _, i + 1, .cons g r => .cons g (RepVs.set h i r)
theorem RepVs.take : ∀ {ps : List Pv} {vs : List V} (n : Nat), RepVs K mg U μ ps vs → RepVs K mg U μ (ps.take n) (vs.take n)
  | _, _, 0, _ => .nil
  | _, _, _ + 1, .nil => .nil
  | _, _, n + 1, .cons h r => .cons h (RepVs.take n r)
theorem RepVs.drop : ∀ {ps : List Pv} {vs : List V} (n : Nat), RepVs K mg U μ ps vs → RepVs K mg U μ (ps.drop n) (vs.drop n)
  | _, _, 0, r => r
  | _, _, _ + 1, .nil => .nil
  | _, _, n + 1, .cons _ r => RepVs.drop n r
theorem RepVs.ints : ∀ {ns : List Int} {vs : List V}, RepVs K mg U μ (ns.map Pv.int) vs → vs = ns.map V.int
  | [], _, .nil => rfl
  | n :: ns, _, .cons (.int _) r => by rw [List.map_cons, RepVs.ints r]
theorem RepVs.of_ints : ∀ (ns : List Int), RepVs K mg U μ (ns.map Pv.int) (ns.map V.int)
  | [] => .nil
  | n :: ns => .cons (.int n) (RepVs.of_ints ns)
end
section
variable (K : PySem.W.Frag) (mg : Str → Option Value)
def RepF (U : Hp) (μ : List Addr) (fs : List (Str × Pv)) (ws : List (Str × V)) : Prop := fs.map (·.1) = ws.map (·.1) ∧ RepVs K mg U μ (fs.map (·.2)) (ws.map (·.2))
def RepC (U : Hp) (μ : List Addr) : Co → Option HO → Prop
  | .lst ps, o => ∃ xs, o = some (.lst xs) ∧ RepVs K mg U μ ps xs
  | .ins c fs, o => ∃ C dx ws, mg c = some (.ref C) ∧ o = some (.ins C dx ws) ∧ RepF K mg U μ fs ws
  | .dK kvs, o => ∃ ws : List (Key × V), o = some (.dK ws) ∧ kvs.map (·.1) = ws.map (·.1) ∧ RepVs K mg U μ (kvs.map (·.2)) (ws.map (·.2))
  | .dT kvs, o => ∃ ws : List (List Key × V), o = some (.dT ws) ∧ kvs.map (·.1) = ws.map (·.1) ∧ RepVs K mg U μ (kvs.map (·.2)) (ws.map (·.2))
  | .dead, o => (∃ ws, o = some (.lst ws)) ∨ (∃ ws, o = some (.dK ws)) ∨ (∃ ws, o = some (.dT ws)) ∨ (∃ ob ws, o = some (.frz ob (.dK ws))) ∨ ∃ ob ws, o = some (.frz ob (.dT ws))
/-- the table of code objects at P, whose known ones never go -/
def TabU (U H : Hp) (P : Addr) (q : Str) : Prop := ∃ ps : Array Value, H P = some (.tbl ps) ∧ TriplesOk ps.toList ∧ ∀ (pos : Pos) (cv : Value), codeAmong pos ps.toList = some cv → ∃ c, cv = .ref c ∧ U c = some (LamX.CodeO c q)
/-- a def's table: where, and the name of the code in it -/
def tabAt (x : Str) : Option (Addr × Str) := match PySem.W.nsIn K mainGlobals x with
  | some (some (.ref f)) => (match K.lookup f with
    | some ⟨_, _, .func fd, _⟩ => (match fd.code with
      | .ref c => (match K.lookup c with
        | some ⟨_, _, .fields vs, _⟩ => (match (vs[11]? : Option Value) with
          | some (.ref P) => some (P, (fd.qualname ++ ".<locals>.") ++ "<lambda>")
          | _ => none)
        | _ => none)
      | _ => none)
    | _ => none)
  | _ => none
/-- the defs whose lambdas are read -/
def tabsOf : List (Addr × Str) := ([] : List Str).filterMap (tabAt K)
def Tb (μ : List Addr) (U H : Hp) : Prop := ∀ p ∈ tabsOf K, U p.1 = none ∧ p.1 ∉ μ ∧ TabU U H p.1 p.2
structure Rel0 (cs : Cells) (μ : List Addr) (U H : Hp) : Prop where
  vh : Ex U H
  nd : μ.Nodup
  len : μ.length = cs.length
  cel : ∀ (k : Nat) (c : Co) (a : Addr), cs[k]? = some c → μ[k]? = some a → RepC K mg U μ c (H a)
  out : ∀ (k : Nat) (c : Co) (a : Addr), cs[k]? = some c → μ[k]? = some a → c ≠ .dead → U a = none
  tab : Tb K μ U H
  ntb : ∀ (a : Addr) (ps : Array Value), U a ≠ some (HO.tbl ps)
structure Gr (U H : Hp) (μ : List Addr) (U' H' : Hp) (μ' : List Addr) : Prop where
  vv : Ex U U'
  mm : μ <+: μ'
  hid : ∀ a (xs : List V), H a = some (.lst xs) → U a = none → a ∉ μ → H' a = some (.lst xs) ∧ U' a = none ∧ a ∉ μ'
/-- the exception that an except suite holds: its slot, address, class, fields, dict -/
structure Xa where
  i : Nat
  a : Addr
  C : Value
  fs : List (Str × Pv)
  d : Option Addr
/-- the dict of an exception -/
def XRep (U : Hp) (μ : List Addr) (fs : List (Str × Pv)) (d : Option Addr) : Prop :=
  (fs = [] ∧ d = none) ∨ ∃ da ws, d = some da ∧ U da = some (.xd ws) ∧ RepF K mg U μ fs ws
structure RelS (xa : Option Xa) (U : Hp) (μ : List Addr) (sl : Sl) (σ : L2.St) : Prop where
  len : sl.length = σ.length
  val : ∀ (i : Nat) (p : Pv), sl[i]? = some (some p) → ∃ v, σ[i]? = some (some v) ∧ RepV K mg U μ p v
  exc : ∀ x, xa = some x → sl[x.i]? = some none → σ[x.i]? = some (some (.ref x.a)) ∧ XRep K mg U μ x.fs x.d
end
section
variable {K : PySem.W.Frag} {mg : Str → Option Value} {U U' H H' U1 H1 U2 H2 : Hp} {μ μ' μ1 μ2 : List Addr} {cs cs' : Cells}
theorem RepC.mono (e : Ex U U') (m : μ <+: μ') : ∀ {c : Co} {o : Option HO}, RepC K mg U μ c o → RepC K mg U' μ' c o
  | .lst ps, _, ⟨xs, h, r⟩ => ⟨xs, h, r.mono e m⟩
  | .ins c fs, _, ⟨C, dx, ws, g, h, n, r⟩ => ⟨C, dx, ws, g, h, n, r.mono e m⟩
  | .dK kvs, _, ⟨ws, h, n, r⟩ => ⟨ws, h, n, r.mono e m⟩
  | .dT kvs, _, ⟨ws, h, n, r⟩ => ⟨ws, h, n, r.mono e m⟩
  | .dead, _, h => h
theorem RepC.some : ∀ {c : Co} {o : Option HO}, RepC K mg U μ c o → o ≠ none
  | .lst ps, _, ⟨xs, h, r⟩ => by rw [h]; simp
  | .ins c fs, _, ⟨C, dx, ws, g, h, n, r⟩ => by rw [h]; simp
  | .dK kvs, _, ⟨ws, h, n, r⟩ => by rw [h]; simp
  | .dT kvs, _, ⟨ws, h, n, r⟩ => by rw [h]; simp
  | .dead, _, h => by
    rcases h with ⟨_, h⟩ | ⟨_, h⟩ | ⟨_, h⟩ | ⟨_, _, h⟩ | ⟨_, _, h⟩ <;> rw [h] <;> simp
theorem RepC.noTbl {o : Option HO} : ∀ {c : Co}, RepC K mg U μ c o → ∀ ps : Array Value, o ≠ Option.some (HO.tbl ps)
  | .lst ps, ⟨xs, h, r⟩, _ => by rw [h]; intro z; cases z
  | .ins c fs, ⟨C, dx, ws, g, h, n, r⟩, _ => by rw [h]; intro z; cases z
  | .dK kvs, ⟨ws, h, n, r⟩, _ => by rw [h]; intro z; cases z
  | .dT kvs, ⟨ws, h, n, r⟩, _ => by rw [h]; intro z; cases z
  | .dead, h, _ => by
    rcases h with ⟨_, h⟩ | ⟨_, h⟩ | ⟨_, h⟩ | ⟨_, _, h⟩ | ⟨_, _, h⟩ <;> rw [h] <;> intro z <;> cases z
theorem Gr.refl : Gr U H μ U H μ := ⟨Ex.refl _, List.prefix_refl _, fun _ _ h u m => ⟨h, u, m⟩⟩
theorem Gr.trans (a : Gr U H μ U1 H1 μ1) (b : Gr U1 H1 μ1 U2 H2 μ2) : Gr U H μ U2 H2 μ2 :=
  ⟨a.vv.trans b.vv, a.mm.trans b.mm, fun x o h u m => by
    obtain ⟨h1, u1, m1⟩ := a.hid x o h u m
    exact b.hid x o h1 u1 m1⟩
theorem XRep.mono {fs : List (Str × Pv)} {d : Option Addr} (e : Ex U U') (m : μ <+: μ') (h : XRep K mg U μ fs d) : XRep K mg U' μ' fs d := by
  rcases h with h | ⟨da, ws, h1, h2, h3, h4⟩
  · exact .inl h
  · exact .inr ⟨da, ws, h1, e _ _ h2, h3, h4.mono e m⟩
theorem RelS.mono {xa : Option Xa} {sl : Sl} {σ : L2.St} (g : Gr U H μ U' H' μ') (r : RelS K mg xa U μ sl σ) : RelS K mg xa U' μ' sl σ :=
  ⟨r.len, fun i p h => by
    obtain ⟨v, h1, h2⟩ := r.val i p h
    exact ⟨v, h1, h2.mono g.vv g.mm⟩, fun x e h => ⟨(r.exc x e h).1, (r.exc x e h).2.mono g.vv g.mm⟩⟩
theorem RelS.set {xa : Option Xa} {sl : Sl} {σ : L2.St} {p : Pv} {v : V} (r : RelS K mg xa U μ sl σ) (h : RepV K mg U μ p v) (i : Nat) : RelS K mg xa U μ (sl.set i (some p)) (σ.set i (some v)) := by
  refine ⟨by rw [List.length_set, List.length_set, r.len], fun j q e => ?_, fun x ex e => ?_⟩
  · by_cases hj : i = j
    · subst hj
      have hl : i < sl.length := by
        have := (List.getElem?_eq_some_iff.mp e).1
        rwa [List.length_set] at this
      rw [List.getElem?_set_self hl] at e
      cases e
      exact ⟨v, List.getElem?_set_self (by rw [← r.len]; exact hl), h⟩
    · rw [List.getElem?_set_ne hj] at e
      rw [List.getElem?_set_ne hj]
      exact r.val j q e
  · by_cases hj : i = x.i
    · have hl : i < sl.length := by
        have := (List.getElem?_eq_some_iff.mp e).1
        rw [List.length_set] at this
        omega
      rw [← hj, List.getElem?_set_self hl] at e
      cases e
    · rw [List.getElem?_set_ne hj] at e
      rw [List.getElem?_set_ne hj]
      exact r.exc x ex e
theorem RelS.setNone {sl : Sl} {σ : L2.St} (r : RelS K mg none U μ sl σ) (i : Nat) : RelS K mg none U μ (sl.set i none) (σ.set i none) := by
  refine ⟨by rw [List.length_set, List.length_set, r.len], fun j q e => ?_, fun x ex => nomatch ex⟩
  by_cases hj : i = j
  · subst hj
    have hl : i < sl.length := by
      have := (List.getElem?_eq_some_iff.mp e).1
      rwa [List.length_set] at this
    rw [List.getElem?_set_self hl] at e
    cases e
  · rw [List.getElem?_set_ne hj] at e
    rw [List.getElem?_set_ne hj]
    exact r.val j q e
/-- into an except suite -/
theorem RelS.take {sl : Sl} {σ : L2.St} {x : Xa} (r : RelS K mg none U μ sl σ) (hx : XRep K mg U μ x.fs x.d) : RelS K mg (some x) U μ (sl.set x.i none) (σ.set x.i (some (.ref x.a))) := by
  refine ⟨by rw [List.length_set, List.length_set, r.len], fun j q e => ?_, fun y ey e => ?_⟩
  · by_cases hj : x.i = j
    · subst hj
      have hl : x.i < sl.length := by
        have := (List.getElem?_eq_some_iff.mp e).1
        rwa [List.length_set] at this
      rw [List.getElem?_set_self hl] at e
      cases e
    · rw [List.getElem?_set_ne hj] at e
      rw [List.getElem?_set_ne hj]
      exact r.val j q e
  · cases ey
    have hl : x.i < sl.length := by
      have := (List.getElem?_eq_some_iff.mp e).1
      rwa [List.length_set] at this
    exact ⟨List.getElem?_set_self (by rw [← r.len]; exact hl), hx⟩
/-- out of it: the name goes -/
theorem RelS.gone {sl : Sl} {σ : L2.St} {xa : Option Xa} (r : RelS K mg xa U μ sl σ) (i : Nat) : RelS K mg none U μ (sl.set i none) (σ.set i none) := by
  refine ⟨by rw [List.length_set, List.length_set, r.len], fun j q e => ?_, fun x ex => nomatch ex⟩
  by_cases hj : i = j
  · subst hj
    have hl : i < sl.length := by
      have := (List.getElem?_eq_some_iff.mp e).1
      rwa [List.length_set] at this
    rw [List.getElem?_set_self hl] at e
    cases e
  · rw [List.getElem?_set_ne hj] at e
    rw [List.getElem?_set_ne hj]
    exact r.val j q e
theorem RelS.lose {sl : Sl} {σ : L2.St} {xa : Option Xa} (r : RelS K mg xa U μ sl σ) : RelS K mg none U μ sl σ := ⟨r.len, r.val, fun x ex => nomatch ex⟩
theorem TabU.ext {P : Addr} {q : Str} (e : Ex U U') (h : H' P = H P) (t : TabU U H P q) : TabU U' H' P q := by
  obtain ⟨ps, h1, h2, h3⟩ := t
  refine ⟨ps, by rw [h]; exact h1, h2, fun pos cv hc => ?_⟩
  obtain ⟨c, e1, e2⟩ := h3 pos cv hc
  exact ⟨c, e1, e _ _ e2⟩
/-- the tables at a place that is none of them -/
theorem Tb.upd {p : Addr} {o : HO} {μ' : List Addr} (t : Tb K μ U H) (e : Ex U U') (hp : ∀ q ∈ tabsOf K, U q.1 = none → q.1 ∉ μ → H q.1 ≠ none → q.1 ≠ p ∧ U' q.1 = none ∧ q.1 ∉ μ') : Tb K μ' U' (upd H p o) := fun q hq => by
  obtain ⟨h1, h2, ps, h3, h4⟩ := t q hq
  obtain ⟨a, b, c⟩ := hp q hq h1 h2 (by rw [h3]; simp)
  exact ⟨b, c, TabU.ext e (upd_ne a) ⟨ps, h3, h4⟩⟩
theorem Tb.same {μ' : List Addr} (t : Tb K μ U H) (e : Ex U U') (hp : ∀ q ∈ tabsOf K, U q.1 = none → q.1 ∉ μ → ∀ ps, H q.1 = some (.tbl ps) → U' q.1 = none ∧ q.1 ∉ μ') : Tb K μ' U' H := fun q hq => by
  obtain ⟨h1, h2, ps, h3, h4⟩ := t q hq
  obtain ⟨b, c⟩ := hp q hq h1 h2 ps h3
  exact ⟨b, c, TabU.ext e rfl ⟨ps, h3, h4⟩⟩
theorem ntb_upd {p : Addr} {o : HO} (n : ∀ (a : Addr) (ps : Array Value), U a ≠ some (HO.tbl ps)) (hn : ∀ ps, o ≠ .tbl ps) : ∀ (a : Addr) (ps : Array Value), upd U p o a ≠ some (HO.tbl ps) := fun a ps z => by
  by_cases q : a = p
  · subst q
    rw [upd_same] at z
    exact hn ps (Option.some.inj z)
  · rw [upd_ne q] at z
    exact n a ps z
theorem Rel0.there (r : Rel0 K mg cs μ U H) {a : Addr} (h : a ∈ μ) : H a ≠ none := by
  obtain ⟨k, hk⟩ := List.mem_iff_getElem?.mp h
  have hl : k < cs.length := by rw [← r.len]; exact (List.getElem?_eq_some_iff.mp hk).1
  exact (r.cel k _ a (List.getElem?_eq_getElem hl) hk).some
/-- a new thing that will never change -/
theorem Rel0.freeze {p : Addr} {o : HO} (r : Rel0 K mg cs μ U H) (h : H p = none) (hn : ∀ ps, o ≠ .tbl ps := by intro _ z; cases z) : Rel0 K mg cs μ (upd U p o) (upd H p o) ∧ Gr U H μ (upd U p o) (upd H p o) μ := by
  have hU : U p = none := r.vh.none h
  have ne : ∀ a, a ∈ μ → a ≠ p := fun a ha e => r.there ha (e ▸ h)
  have ex : Ex U (upd U p o) := Ex.upd hU
  refine ⟨⟨fun a u e => ?_, r.nd, r.len, fun k c a h1 h2 => ?_, fun k c a h1 h2 h3 => ?_, r.tab.upd ex fun q _ h1 h2 h3 => ⟨fun e => h3 (by rw [e]; exact h), by rw [upd_ne (fun e => h3 (by rw [e]; exact h))]; exact h1, h2⟩, ntb_upd r.ntb hn⟩, ex, List.prefix_refl _, fun a u h1 h2 h3 => ?_⟩
  · by_cases q : a = p
    · subst q; rw [upd_same] at e ⊢; exact e
    · rw [upd_ne q] at e ⊢; exact r.vh a u e
  · rw [upd_ne (ne a (List.mem_of_getElem? h2))]
    exact (r.cel k c a h1 h2).mono ex (List.prefix_refl _)
  · rw [upd_ne (ne a (List.mem_of_getElem? h2))]
    exact r.out k c a h1 h2 h3
  · have q : a ≠ p := ne_of_none h1 h
    rw [upd_ne q, upd_ne q]
    exact ⟨h1, h2, h3⟩
/-- a new thing that nobody speaks of -/
theorem Rel0.hidden {p : Addr} {o : HO} (r : Rel0 K mg cs μ U H) (h : H p = none) : Rel0 K mg cs μ U (upd H p o) ∧ Gr U H μ U (upd H p o) μ := by
  have hU : U p = none := r.vh.none h
  have ne : ∀ a, a ∈ μ → a ≠ p := fun a ha e => r.there ha (e ▸ h)
  refine ⟨⟨fun a u e => ?_, r.nd, r.len, fun k c a h1 h2 => ?_, r.out, r.tab.upd (Ex.refl _) fun q _ h1 h2 h3 => ⟨fun e => h3 (by rw [e]; exact h), h1, h2⟩, r.ntb⟩, Ex.refl _, List.prefix_refl _, fun a u h1 h2 h3 => ?_⟩
  · rw [upd_ne (ne_of_none e hU)]
    exact r.vh a u e
  · rw [upd_ne (ne a (List.mem_of_getElem? h2))]
    exact r.cel k c a h1 h2
  · have q : a ≠ p := ne_of_none h1 h
    rw [upd_ne q]
    exact ⟨h1, h2, h3⟩
/-- a hidden thing turns -/
theorem Rel0.turn {p : Addr} {o : HO} {ws : List V} (r : Rel0 K mg cs μ U H) (hl : H p = some (.lst ws)) (hU : U p = none) (hm : p ∉ μ) : Rel0 K mg cs μ U (upd H p o) := by
  refine ⟨fun a u e => ?_, r.nd, r.len, fun k c a h1 h2 => ?_, r.out, fun q hq => ?_, r.ntb⟩
  rotate_left 2
  · obtain ⟨h1, h2, ps, h3, h4⟩ := r.tab q hq
    have ne : q.1 ≠ p := fun e => by
      rw [e, hl] at h3
      cases h3
    exact ⟨h1, h2, TabU.ext (Ex.refl _) (upd_ne ne) ⟨ps, h3, h4⟩⟩
  · rw [upd_ne (ne_of_none e hU)]
    exact r.vh a u e
  · rw [upd_ne (fun e : a = p => hm (e ▸ List.mem_of_getElem? h2))]
    exact r.cel k c a h1 h2
/-- a hidden thing comes into sight, for good -/
theorem Rel0.show_ {p : Addr} {o : HO} (r : Rel0 K mg cs μ U H) (hp : H p = some o) (hU : U p = none) (hm : p ∉ μ) (hn : ∀ ps, o ≠ .tbl ps := by intro _ z; cases z) : Rel0 K mg cs μ (upd U p o) H ∧ Ex U (upd U p o) := by
  have ex : Ex U (upd U p o) := Ex.upd hU
  refine ⟨⟨fun a u e => ?_, r.nd, r.len, fun k c a h1 h2 => (r.cel k c a h1 h2).mono ex (List.prefix_refl _), fun k c a h1 h2 h3 => ?_, r.tab.same ex fun q _ h1 h2 ps h3 => ⟨by
    rw [upd_ne (fun e => by
      rw [e, hp] at h3
      exact hn ps (Option.some.inj h3))]
    exact h1, h2⟩, ntb_upd r.ntb hn⟩, ex⟩
  · by_cases q : a = p
    · subst q; rw [upd_same] at e; rw [← e]; exact hp
    · rw [upd_ne q] at e; exact r.vh a u e
  · rw [upd_ne (fun e : a = p => hm (e ▸ List.mem_of_getElem? h2))]
    exact r.out k c a h1 h2 h3
/-- a new cell of a hidden thing -/
theorem Rel0.cell {p : Addr} {c : Co} (r : Rel0 K mg cs μ U H) (hc : RepC K mg U (μ ++ [p]) c (H p)) (hU : U p = none) (hm : p ∉ μ) : Rel0 K mg (cs ++ [c]) (μ ++ [p]) U H := by
  have pm : μ <+: μ ++ [p] := List.prefix_append _ _
  have key : ∀ (P : Co → Addr → Prop), (∀ (k : Nat) c a, cs[k]? = some c → μ[k]? = some a → P c a) → P c p → ∀ (k : Nat) c' a, (cs ++ [c])[k]? = some c' → (μ ++ [p])[k]? = some a → P c' a := fun P h0 h1 k c' a e1 e2 => by
    by_cases hk : k < cs.length
    · rw [List.getElem?_append_left hk] at e1
      rw [List.getElem?_append_left (by rw [r.len]; exact hk)] at e2
      exact h0 k c' a e1 e2
    · have hk2 : k = cs.length := by
        have := (List.getElem?_eq_some_iff.mp e1).1
        rw [List.length_append, List.length_singleton] at this
        omega
      subst hk2
      rw [List.getElem?_append_right (Nat.le_refl _), Nat.sub_self] at e1
      rw [← r.len, List.getElem?_append_right (Nat.le_refl _), Nat.sub_self] at e2
      cases e1; cases e2
      exact h1
  refine ⟨r.vh, ?_, by rw [List.length_append, List.length_append, r.len]; rfl, key (fun c a => RepC K mg U (μ ++ [p]) c (H a)) (fun k c a h1 h2 => (r.cel k c a h1 h2).mono (Ex.refl _) pm) hc, key (fun c a => c ≠ .dead → U a = none) (fun k c a h1 h2 => r.out k c a h1 h2) fun _ => hU,
    r.tab.same (Ex.refl _) fun q _ h1 h2 ps h3 => ⟨h1, fun z => by
      rcases List.mem_append.mp z with z | z
      · exact h2 z
      · have e : q.1 = p := by simpa using z
        rw [e] at h3
        exact RepC.noTbl hc ps h3⟩, r.ntb⟩
  rw [List.nodup_append]
  refine ⟨r.nd, by simp, fun a ha b hb e => ?_⟩
  have : b = p := by simpa using hb
  subst this; subst e; exact hm ha
/-- a cell turns -/
theorem Rel0.put {k : Nat} {a : Addr} {c c' : Co} {o : HO} (r : Rel0 K mg cs μ U H) (hk : cs[k]? = some c) (hd : c ≠ .dead) (ha : μ[k]? = some a) (hc : RepC K mg U μ c' (some o)) :
    Rel0 K mg (cs.set k c') μ U (upd H a o) ∧ Gr U H μ U (upd H a o) μ := by
  have hU : U a = none := r.out k c a hk ha hd
  have kl : k < cs.length := (List.getElem?_eq_some_iff.mp hk).1
  refine ⟨⟨fun b u e => ?_, r.nd, by rw [List.length_set]; exact r.len, fun j c2 b h1 h2 => ?_, fun j c2 b h1 h2 h3 => ?_, r.tab.upd (Ex.refl _) fun q _ h1 h2 _ => ⟨fun e => h2 (e ▸ List.mem_of_getElem? ha), h1, h2⟩, r.ntb⟩, Ex.refl _, List.prefix_refl _, fun b u h1 h2 h3 => ?_⟩
  · rw [upd_ne (ne_of_none e hU)]
    exact r.vh b u e
  · by_cases q : k = j
    · subst q
      rw [List.getElem?_set_self kl] at h1
      cases h1
      rw [ha] at h2; cases h2
      rw [upd_same]
      exact hc
    · rw [List.getElem?_set_ne q] at h1
      have : b ≠ a := fun e => q (nodup_ix' r.nd ha (e ▸ h2))
      rw [upd_ne this]
      exact r.cel j c2 b h1 h2
  · by_cases q : k = j
    · subst q
      rw [ha] at h2; cases h2
      exact hU
    · rw [List.getElem?_set_ne q] at h1
      exact r.out j c2 b h1 h2 h3
  · have : b ≠ a := fun e => h3 (e ▸ List.mem_of_getElem? ha)
    rw [upd_ne this]
    exact ⟨h1, h2, h3⟩
where nodup_ix' {l : List Addr} (hN : l.Nodup) {i j : Nat} {x : Addr} (a : l[i]? = some x) (b : l[j]? = some x) : i = j := nd_ix hN a b
theorem RepC.noCode {q : Addr} {n : Str} {o : Option HO} : ∀ {c : Co}, RepC K mg U μ c o → o ≠ Option.some (LamX.CodeO q n)
  | .lst ps, ⟨xs, h, r⟩ => by rw [h]; unfold LamX.CodeO; intro z; cases z
  | .ins c fs, ⟨C, dx, ws, g, h, n, r⟩ => by rw [h]; unfold LamX.CodeO; intro z; cases z
  | .dK kvs, ⟨ws, h, n, r⟩ => by rw [h]; unfold LamX.CodeO; intro z; cases z
  | .dT kvs, ⟨ws, h, n, r⟩ => by rw [h]; unfold LamX.CodeO; intro z; cases z
  | .dead, h => by
    unfold LamX.CodeO
    rcases h with ⟨_, h⟩ | ⟨_, h⟩ | ⟨_, h⟩ | ⟨_, _, h⟩ | ⟨_, _, h⟩ <;> rw [h] <;> intro z <;> cases z
theorem code_lst {c : Addr} {q : Str} {xs : List V} : (HO.lst xs) ≠ LamX.CodeO c q := fun z => by
  unfold LamX.CodeO at z
  cases z
/-- the tables as the kit says it -/
theorem Rel0.tabs (r : Rel0 K mg cs μ U H) : LamX.Tabs (tabsOf K) H := fun p hp => by
  obtain ⟨_, _, ps, h1, h2, h3⟩ := r.tab p hp
  refine ⟨ps, h1, h2, fun pos cv hc => ?_⟩
  obtain ⟨c, e1, e2⟩ := h3 pos cv hc
  exact ⟨c, e1, r.vh _ _ e2⟩
open Classical in
/-- the tables have turned, all else is kept: the code objects come into sight -/
theorem Rel0.code (r : Rel0 K mg cs μ U H) (x : LamX.ExtN H H') (t : LamX.Tabs (tabsOf K) H') :
    ∃ U', Rel0 K mg cs μ U' H' ∧ Gr U H μ U' H' μ ∧ ∀ (c : Addr) (q : Str), H' c = some (LamX.CodeO c q) → U' c = some (LamX.CodeO c q) := by
  have xU : ∀ a o, U a = some o → H' a = some o := fun a o e => x a o (r.vh a o e) fun ps z => r.ntb a ps (by rw [e, z])
  have xm : ∀ a, a ∈ μ → H' a = H a := fun a ha => by
    obtain ⟨k, hk⟩ := List.mem_iff_getElem?.mp ha
    have hl : k < cs.length := by rw [← r.len]; exact (List.getElem?_eq_some_iff.mp hk).1
    have hc := r.cel k _ a (List.getElem?_eq_getElem hl) hk
    cases hH : H a with
    | none => exact absurd hH hc.some
    | some o => exact x a o hH fun ps z => RepC.noTbl hc ps (by rw [hH, z])
  have nm : ∀ (a : Addr) (q : Str), H' a = some (LamX.CodeO a q) → a ∉ μ := fun a q e ha => by
    obtain ⟨k, hk⟩ := List.mem_iff_getElem?.mp ha
    have hl : k < cs.length := by rw [← r.len]; exact (List.getElem?_eq_some_iff.mp hk).1
    have hc := r.cel k _ a (List.getElem?_eq_getElem hl) hk
    rw [xm a ha] at e
    exact RepC.noCode hc e
  let U' : Hp := fun a => if ∃ q, H' a = some (LamX.CodeO a q) then H' a else U a
  have hc' : ∀ (c : Addr) (q : Str), H' c = some (LamX.CodeO c q) → U' c = some (LamX.CodeO c q) := fun c q e => by
    show (if _ then H' c else U c) = _
    rw [if_pos ⟨q, e⟩, e]
  have ex : Ex U U' := fun a o e => by
    show (if _ then H' a else U a) = some o
    split
    · exact xU a o e
    · exact e
  have off : ∀ a, (∀ q, H' a ≠ some (LamX.CodeO a q)) → U' a = U a := fun a h => if_neg fun ⟨q, e⟩ => h q e
  have vh : Ex U' H' := fun a o e => by
    have e : (if ∃ q, H' a = some (LamX.CodeO a q) then H' a else U a) = some o := e
    split at e
    · exact e
    · exact xU a o e
  refine ⟨U', ⟨vh, r.nd, r.len, fun k c a h1 h2 => ?_, fun k c a h1 h2 h3 => ?_, fun p hp => ?_, fun a ps e => ?_⟩, ⟨ex, List.prefix_refl _, fun a xs h1 h2 h3 => ?_⟩, hc'⟩
  · rw [xm a (List.mem_of_getElem? h2)]
    exact (r.cel k c a h1 h2).mono ex (List.prefix_refl _)
  · rw [off a fun q e => nm a q e (List.mem_of_getElem? h2)]
    exact r.out k c a h1 h2 h3
  · obtain ⟨h1, h2, _⟩ := r.tab p hp
    obtain ⟨ps, t1, t2, t3⟩ := t p hp
    refine ⟨?_, h2, ps, t1, t2, fun pos cv hcv => ?_⟩
    · rw [off _ fun q e => LamX.codeO_ne ps (Option.some.inj (e.symm.trans t1))]
      exact h1
    · obtain ⟨c, e1, e2⟩ := t3 pos cv hcv
      exact ⟨c, e1, hc' c _ e2⟩
  · have e : (if ∃ q, H' a = some (LamX.CodeO a q) then H' a else U a) = some (HO.tbl ps) := e
    split at e
    · rename_i hq
      obtain ⟨q, hq⟩ := hq
      exact LamX.codeO_ne ps (Option.some.inj (hq.symm.trans e))
    · exact r.ntb a ps e
  · have hx : H' a = some (.lst xs) := x a _ h1 fun ps z => by cases z
    refine ⟨hx, ?_, h3⟩
    rw [off a fun q e => code_lst (Option.some.inj (hx.symm.trans e))]
    exact h2
/-- a heap without its tables -/
def unT (H : Hp) : Hp := fun a => match H a with
  | some (.tbl _) => none
  | o => o
theorem unT_some {a : Addr} {o : HO} (e : H a = some o) (n : ∀ ps, o ≠ .tbl ps) : unT H a = some o := by
  unfold unT
  rw [e]
  cases o with
  | tbl ps => exact absurd rfl (n ps)
  | _ => rfl
theorem unT_ex : Ex (unT H) H := fun a o e => by
  unfold unT at e
  split at e
  · cases e
  · exact e
theorem unT_ntb (a : Addr) (ps : Array Value) : unT H a ≠ some (HO.tbl ps) := fun e => by
  have h := unT_ex a _ e
  unfold unT at e
  rw [h] at e
  cases e
/-- nothing but the tables turns -/
structure Ek (K : PySem.W.Frag) (H H' : Hp) : Prop where
  x : LamX.ExtN H H'
  t : LamX.Tabs (tabsOf K) H → LamX.Tabs (tabsOf K) H'
theorem Ek.refl (H : Hp) : Ek K H H := ⟨LamX.ExtN.refl H, id⟩
theorem Ek.trans {H2 : Hp} (a : Ek K H H') (b : Ek K H' H2) : Ek K H H2 := ⟨a.x.trans b.x, fun t => b.t (a.t t)⟩
theorem Ek.l {a : Addr} {xs : List V} (x : Ek K H H') (h : SqL K H a xs) : SqL K H' a xs := by
  rcases h with (h | ⟨o, h⟩) | h
  · exact .inl (.inl (x.x _ _ h fun ps z => by cases z))
  · exact .inl (.inr ⟨o, x.x _ _ h fun ps z => by cases z⟩)
  · exact .inr h
theorem Ek.tp {a : Addr} {xs : List V} (x : Ek K H H') (h : SqT K H a xs) : SqT K H' a xs := by
  rcases h with (h | ⟨o, h⟩) | h
  · exact .inl (.inl (x.x _ _ h fun ps z => by cases z))
  · exact .inl (.inr ⟨o, x.x _ _ h fun ps z => by cases z⟩)
  · exact .inr h
/-- a world of its own, in which all stands for good -/
theorem Rel0.own (t : LamX.Tabs (tabsOf K) H) : Rel0 K mg [] [] (unT H) H :=
  ⟨unT_ex, List.nodup_nil, rfl, fun k c a h => by simp at h, fun k c a h => by simp at h, fun p hp => by
    obtain ⟨ps, h1, h2, h3⟩ := t p hp
    refine ⟨?_, by simp, ps, h1, h2, fun pos cv hc => ?_⟩
    · unfold unT
      rw [h1]
    · obtain ⟨c, e1, e2⟩ := h3 pos cv hc
      exact ⟨c, e1, unT_some e2 fun ps => LamX.codeO_ne ps⟩, unT_ntb⟩
theorem Ek.of_own {cs2 : Cells} {μ2 : List Addr} {U2 H2 : Hp} (r : Rel0 K mg cs2 μ2 U2 H2) (g : Ex (unT H) U2) : Ek K H H2 :=
  ⟨fun a o e n => r.vh a o (g a o (unT_some e n)), fun _ => r.tabs⟩
theorem Rel0.unT {H' : Hp} (r : Rel0 K mg cs μ U H) (x : LamX.ExtN H H') : Ex U (AL.unT H') := fun a o e => unT_some (x a o (r.vh a o e) fun ps z => r.ntb a ps (by rw [e, z])) fun ps z => r.ntb a ps (by rw [e, z])
end
end AL
set_option Elab.async false
set_option linter.all false
set_option autoImplicit false
set_option maxRecDepth 100000
set_option maxHeartbeats 4000000
namespace AL
open PySem PySem.Spec PyProof.Rows L2
inductive Res (α : Type) where
  | ok (a : α) (cs : Cells) | exn (c : Str) (fs : List (Str × Pv)) (cs : Cells) | bad
def Res.bind {α β : Type} : Res α → (α → Cells → Res β) → Res β
  | .ok a cs, k => k a cs
  | .exn c fs cs, _ => .exn c fs cs
  | .bad, _ => .bad
@[simp] theorem Res.bind_ok {α β : Type} (a : α) (cs : Cells) (k : α → Cells → Res β) : (Res.ok a cs).bind k = k a cs := rfl
@[simp] theorem Res.bind_exn {α β : Type} (c : Str) (fs : List (Str × Pv)) (cs : Cells) (k : α → Cells → Res β) : (Res.exn c fs cs : Res α).bind k = .exn c fs cs := rfl
@[simp] theorem Res.bind_bad {α β : Type} (k : α → Cells → Res β) : (Res.bad : Res α).bind k = .bad := rfl
inductive RS where
  | nx (sl : Sl) (cs : Cells) | rt (v : Pv) (cs : Cells) | bk (sl : Sl) (cs : Cells) | ct (sl : Sl) (cs : Cells) | exn (c : Str) (fs : List (Str × Pv)) (sl : Sl) (cs : Cells) | bad
/-- an expression's outcome, then a statement -/
def Res.go {α : Type} (sl : Sl) : Res α → (α → Cells → RS) → RS
  | .ok a cs, k => k a cs
  | .exn c fs cs, _ => .exn c fs sl cs
  | .bad, _ => .bad
@[simp] theorem Res.go_ok {α : Type} (sl : Sl) (a : α) (cs : Cells) (k : α → Cells → RS) : (Res.ok a cs).go sl k = k a cs := rfl
@[simp] theorem Res.go_exn {α : Type} (sl : Sl) (c : Str) (fs : List (Str × Pv)) (cs : Cells) (k : α → Cells → RS) : (Res.exn c fs cs : Res α).go sl k = .exn c fs sl cs := rfl
@[simp] theorem Res.go_bad {α : Type} (sl : Sl) (k : α → Cells → RS) : (Res.bad : Res α).go sl k = .bad := rfl
/-- a statement, then the next -/
def RS.then : RS → (Sl → Cells → RS) → RS
  | .nx sl cs, k => k sl cs
  | r, _ => r
@[simp] theorem RS.then_nx (sl : Sl) (cs : Cells) (k : Sl → Cells → RS) : (RS.nx sl cs).then k = k sl cs := rfl
@[simp] theorem RS.then_rt (v : Pv) (cs : Cells) (k : Sl → Cells → RS) : (RS.rt v cs).then k = .rt v cs := rfl
@[simp] theorem RS.then_bk (sl : Sl) (cs : Cells) (k : Sl → Cells → RS) : (RS.bk sl cs).then k = .bk sl cs := rfl
@[simp] theorem RS.then_ct (sl : Sl) (cs : Cells) (k : Sl → Cells → RS) : (RS.ct sl cs).then k = .ct sl cs := rfl
@[simp] theorem RS.then_exn (c : Str) (fs : List (Str × Pv)) (sl : Sl) (cs : Cells) (k : Sl → Cells → RS) : (RS.exn c fs sl cs).then k = .exn c fs sl cs := rfl
@[simp] theorem RS.then_bad (k : Sl → Cells → RS) : RS.bad.then k = .bad := rfl
abbrev FE := Sl → Cells → Res Pv
abbrev FA := Sl → Cells → Res (List Pv)
abbrev FT := Sl → Cells → Res Bool
abbrev FS := Sl → Cells → RS
/-- what is wished for where something is raised, and the exception that is held -/
structure WE where
  w : WX
  x : Option Xa
section
variable (K : PySem.W.Frag) (mg : Str → Option Value)
def Out {α β : Type} (R : Hp → List Addr → α → β → Prop) (E : XK) (U H : Hp) (μ : List Addr) (r : Res α) (Q : β → Hp → Prop) : Prop :=
  match r with
  | .ok a cs => ∀ w U' H' μ', Gr U H μ U' H' μ' → Rel0 K mg cs μ' U' H' → R U' μ' a w → Q w H'
  | .exn c fs cs => ∀ C d U' H' μ', Gr U H μ U' H' μ' → Rel0 K mg cs μ' U' H' → mg c = some (.ref C) → XRep K mg U' μ' fs d → E (.ref C) d H'
  | .bad => False
def OutS (W : WE) (D : Ends) (U H : Hp) (μ : List Addr) (r : RS) : Prop :=
  match r with
  | .nx sl cs => ∀ σ' U' H' μ', Gr U H μ U' H' μ' → Rel0 K mg cs μ' U' H' → RelS K mg W.x U' μ' sl σ' → D.nx σ' H'
  | .bk sl cs => ∀ σ' U' H' μ', Gr U H μ U' H' μ' → Rel0 K mg cs μ' U' H' → RelS K mg W.x U' μ' sl σ' → D.bk σ' H'
  | .ct sl cs => ∀ σ' U' H' μ', Gr U H μ U' H' μ' → Rel0 K mg cs μ' U' H' → RelS K mg W.x U' μ' sl σ' → D.ct σ' H'
  | .rt v cs => ∀ w U' H' μ', Gr U H μ U' H' μ' → Rel0 K mg cs μ' U' H' → RepV K mg U' μ' v w → D.rt w H'
  | .exn c fs sl cs => ∀ C d σ' U' H' μ', Gr U H μ U' H' μ' → Rel0 K mg cs μ' U' H' → RelS K mg W.x U' μ' sl σ' → mg c = some (.ref C) → XRep K mg U' μ' fs d → W.w (.ref C) d σ' H'
  | .bad => False
def rdE (W : WE) (f : FE) : TE := fun σ H Q => ∃ sl cs μ U, Rel0 K mg cs μ U H ∧ RelS K mg W.x U μ sl σ ∧ Out K mg (RepV K mg) (fun c d H => W.w c d σ H) U H μ (f sl cs) Q
def rdA (W : WE) (f : FA) : TA := fun σ H Q => ∃ sl cs μ U, Rel0 K mg cs μ U H ∧ RelS K mg W.x U μ sl σ ∧ Out K mg (RepVs K mg) (fun c d H => W.w c d σ H) U H μ (f sl cs) Q
def rdT (W : WE) (f : FT) : TT := fun σ H Q => ∃ sl cs μ U, Rel0 K mg cs μ U H ∧ RelS K mg W.x U μ sl σ ∧ Out K mg (fun _ _ a b => a = b) (fun c d H => W.w c d σ H) U H μ (f sl cs) Q
def rdS (W : WE) (f : FS) : TS := fun D σ H => ∃ sl cs μ U, Rel0 K mg cs μ U H ∧ RelS K mg W.x U μ sl σ ∧ OutS K mg W D U H μ (f sl cs)
end
section
variable {K : PySem.W.Frag} {mg : Str → Option Value} {U U' H H' U1 H1 : Hp} {μ μ' μ1 : List Addr} {cs cs' : Cells} {α β γ δ : Type} {R : Hp → List Addr → α → γ → Prop} {R' : Hp → List Addr → β → δ → Prop} {E : XK} {W : WE} {D : Ends}
theorem Out.later {r : Res α} {Q : γ → Hp → Prop} (g : Gr U H μ U1 H1 μ1) (h : Out K mg R E U H μ r Q) : Out K mg R E U1 H1 μ1 r Q := by
  cases r with
  | ok a cs => exact fun w U' H' μ' g' r' q => h w U' H' μ' (g.trans g') r' q
  | exn c fs cs => exact fun C d U' H' μ' g' r' m x => h C d U' H' μ' (g.trans g') r' m x
  | bad => exact h
theorem OutS.later {r : RS} (g : Gr U H μ U1 H1 μ1) (h : OutS K mg W D U H μ r) : OutS K mg W D U1 H1 μ1 r := by
  cases r with
  | nx a cs => exact fun w U' H' μ' g' r' q => h w U' H' μ' (g.trans g') r' q
  | bk a cs => exact fun w U' H' μ' g' r' q => h w U' H' μ' (g.trans g') r' q
  | ct a cs => exact fun w U' H' μ' g' r' q => h w U' H' μ' (g.trans g') r' q
  | rt a cs => exact fun w U' H' μ' g' r' q => h w U' H' μ' (g.trans g') r' q
  | exn c fs sl cs => exact fun C d σ' U' H' μ' g' r' q m x => h C d σ' U' H' μ' (g.trans g') r' q m x
  | bad => exact h
/-- one behind the other -/
theorem Out.seq {r : Res α} {k : α → Cells → Res β} {Q : δ → Hp → Prop} {Q1 : γ → Hp → Prop} (h : Out K mg R' E U H μ (r.bind k) Q)
    (c : ∀ a cs1 w U1 H1 μ1, r = .ok a cs1 → Gr U H μ U1 H1 μ1 → Rel0 K mg cs1 μ1 U1 H1 → R U1 μ1 a w → Out K mg R' E U1 H1 μ1 (k a cs1) Q → Q1 w H1) : Out K mg R E U H μ r Q1 := by
  cases r with
  | ok a cs => exact fun w U' H' μ' g' r' q => c a cs w U' H' μ' rfl g' r' q (Out.later g' h)
  | exn c fs cs => exact h
  | bad => exact h
theorem OutS.seq {r : Res α} {sl : Sl} {σ : L2.St} {k : α → Cells → RS} {Q1 : γ → Hp → Prop} (h : OutS K mg W D U H μ (r.go sl k)) (rs : RelS K mg W.x U μ sl σ)
    (c : ∀ a cs1 w U1 H1 μ1, r = .ok a cs1 → Gr U H μ U1 H1 μ1 → Rel0 K mg cs1 μ1 U1 H1 → R U1 μ1 a w → OutS K mg W D U1 H1 μ1 (k a cs1) → Q1 w H1) : Out K mg R (fun c d H => W.w c d σ H) U H μ r Q1 := by
  cases r with
  | ok a cs => exact fun w U' H' μ' g' r' q => c a cs w U' H' μ' rfl g' r' q (OutS.later g' h)
  | exn c fs cs => exact fun C d U' H' μ' g' r' m x => h C d σ U' H' μ' g' r' (rs.mono g') m x
  | bad => exact h
/-- a statement, then a statement -/
theorem OutS.then {r : RS} {k : Sl → Cells → RS} {D' : Ends} (h : OutS K mg W D U H μ (r.then k)) (hrt : ∀ v H', D.rt v H' → D'.rt v H') (hbk : ∀ σ H', D.bk σ H' → D'.bk σ H') (hct : ∀ σ H', D.ct σ H' → D'.ct σ H')
    (c : ∀ sl1 cs1 σ1 U1 H1 μ1, r = .nx sl1 cs1 → Gr U H μ U1 H1 μ1 → Rel0 K mg cs1 μ1 U1 H1 → RelS K mg W.x U1 μ1 sl1 σ1 → OutS K mg W D U1 H1 μ1 (k sl1 cs1) → D'.nx σ1 H1) : OutS K mg W D' U H μ r := by
  cases r with
  | nx a cs => exact fun σ' U' H' μ' g' r' q => c a cs σ' U' H' μ' rfl g' r' q (OutS.later g' h)
  | bk a cs => exact fun w U' H' μ' g' r' q => hbk _ _ (h w U' H' μ' g' r' q)
  | ct a cs => exact fun w U' H' μ' g' r' q => hct _ _ (h w U' H' μ' g' r' q)
  | rt a cs => exact fun w U' H' μ' g' r' q => hrt _ _ (h w U' H' μ' g' r' q)
  | exn c fs sl cs => exact h
  | bad => exact h
end
theorem PE.le {X : Cx} {e : Expr} {t t' : TE} (h : PE X e t) (l : ∀ σ H Q, t' σ H Q → t σ H Q) : PE X e t' := ⟨fun pins s σ H Q I q => h.run pins s σ H Q I (l σ H Q q)⟩
theorem PT.le {X : Cx} {e : Expr} {t t' : TT} (h : PT X e t) (l : ∀ σ H Q, t' σ H Q → t σ H Q) : PT X e t' := ⟨fun pins s σ H Q I q => h.run pins s σ H Q I (l σ H Q q)⟩
theorem PW.le {X : Cx} {e : Expr} {t t' : TT} (h : PW X e t) (l : ∀ σ H Q, t' σ H Q → t σ H Q) : PW X e t' := ⟨fun wh pins s σ H Q I q => h.run wh pins s σ H Q I (l σ H Q q)⟩
theorem PA.le {X : Cx} {es : List Expr} {t t' : TA} (h : PA X es t) (l : ∀ σ H Q, t' σ H Q → t σ H Q) : PA X es t' := ⟨fun pos pins s σ H Q I q => h.run pos pins s σ H Q I (l σ H Q q)⟩
theorem PS.le {X : Cx} {st : Stmt} {t t' : TS} (h : PS X st t) (l : ∀ D σ H, t' D σ H → t D σ H) : PS X st t' := ⟨fun pins s σ H D I q => h.run pins s σ H D I (l D σ H q)⟩
theorem PSs.le {X : Cx} {st : List Stmt} {t t' : TS} (h : PSs X st t) (l : ∀ D σ H, t' D σ H → t D σ H) : PSs X st t' := ⟨fun pins s σ H D I q => h.run pins s σ H D I (l D σ H q)⟩
def fVar (i : Nat) : FE := fun sl cs => match sl[i]? with
  | some (some v) => .ok v cs
  | _ => .bad
def fCon (v : Pv) : FE := fun _ cs => .ok v cs
section
variable {X : Cx} {W : WE}
theorem b_var (i : Nat) {x : Str} {pos : Pos} (hN : X.N[i]? = some x := by rfl) (hv : Vis X.env.scope x := by first | exact Or.inl rfl | exact Or.inr (Or.inl rfl) | exact Or.inr (Or.inr rfl)) (hd : (x == ("__debug__" : Str)) = false := by decide)
    (hcd : (x == ("__classdict__" : Str)) = false := by decide) : PE X (.Name x pos) (rdE X.K X.mg W (fVar i)) := by
  refine PE.le (pe_var hN hv hd hcd) fun σ H Q h => ?_
  obtain ⟨sl, cs, μ, U, r0, rs, h⟩ := h
  unfold fVar at h
  split at h
  · rename_i v e
    obtain ⟨w, h1, h2⟩ := rs.val i v e
    exact ⟨w, h1, h w U H μ Gr.refl r0 h2⟩
  · exact h.elim
theorem rd_con {v : Pv} {w : V} (r : ∀ U μ, RepV X.K X.mg U μ v w) (σ : L2.St) (H : Hp) (Q : VK) (h : rdE X.K X.mg W (fCon v) σ H Q) : Q w H := by
  obtain ⟨sl, cs, μ, U, r0, rs, h⟩ := h
  exact h w U H μ Gr.refl r0 (r U μ)
theorem b_int {i j pos} : PE X (.Constant (.int i) j pos) (rdE X.K X.mg W (fCon (.int i))) := PE.le pe_int fun σ H Q h => rd_con (fun _ _ => .int i) σ H Q h
theorem b_bl {b j pos} : PE X (.Constant (.bool b) j pos) (rdE X.K X.mg W (fCon (.bl b))) := PE.le pe_bl fun σ H Q h => rd_con (fun _ _ => .bl b) σ H Q h
theorem b_non {j pos} : PE X (.Constant .none j pos) (rdE X.K X.mg W (fCon .non)) := PE.le pe_non fun σ H Q h => rd_con (fun _ _ => .non) σ H Q h
theorem b_str {x j pos} : PE X (.Constant (.str x) j pos) (rdE X.K X.mg W (fCon (.str x))) := PE.le pe_str fun σ H Q h => rd_con (fun _ _ => .str x) σ H Q h
end
abbrev F2 := Pv → Pv → Cells → Res Pv
def f2 (o : F2) (f g : FE) : FE := fun sl cs => (f sl cs).bind fun x cs1 => (g sl cs1).bind fun y cs2 => o x y cs2
def f1 (o : Pv → Cells → Res Pv) (f : FE) : FE := fun sl cs => (f sl cs).bind fun x cs1 => o x cs1
/-- an operation's own reading r follows from what the plain operation says -/
def Ok2 (K : PySem.W.Frag) (mg : Str → Option Value) (o : F2) (r : R2) : Prop := ∀ (E : XK) x y cs v w U H μ Q, Rel0 K mg cs μ U H → RepV K mg U μ x v → RepV K mg U μ y w → Out K mg (RepV K mg) E U H μ (o x y cs) Q → r v w H Q
section
variable {K : PySem.W.Frag} {mg : Str → Option Value} {W : WE} {f g : FE}
theorem rd_op {o : F2} {r : R2} (hr : Ok2 K mg o r) (σ : L2.St) (H : Hp) (Q : VK) (h : rdE K mg W (f2 o f g) σ H Q) : tOp r (rdE K mg W f) (rdE K mg W g) σ H Q := by
  obtain ⟨sl, cs, μ, U, r0, rs, h⟩ := h
  refine ⟨sl, cs, μ, U, r0, rs, Out.seq h fun x cs1 w U1 H1 μ1 _ g1 r1 p1 h1 => ⟨sl, cs1, μ1, U1, r1, rs.mono g1, Out.seq h1 fun y cs2 w2 U2 H2 μ2 _ g2 r2 p2 h2 => ?_⟩⟩
  exact hr _ x y cs2 w w2 U2 H2 μ2 Q r2 (p1.mono g2.vv g2.mm) p2 h2
end
section
variable {X : Cx} {W : WE} {f g : FE} {a b : Expr} {pos : Pos}
theorem b_bin {op : Operator} {o : F2} {r : R2} (ho : OpR X (binaryOp op) r) (hr : Ok2 X.K X.mg o r) (ha : PE X a (rdE X.K X.mg W f)) (hb : PE X b (rdE X.K X.mg W g)) : PE X (.BinOp a op b pos) (rdE X.K X.mg W (f2 o f g)) :=
  PE.le (pe_op ho ha hb) (rd_op hr)
theorem b_cmp {op : CmpOp} {o : F2} {r : R2} (ho : OpR X (compareOp op) r) (hr : Ok2 X.K X.mg o r) (ha : PE X a (rdE X.K X.mg W f)) (hb : PE X b (rdE X.K X.mg W g)) (hm : behindInMarks op b = false := by first | exact nomark _ | rfl) : PE X (.Compare a [op] [b] pos) (rdE X.K X.mg W (f2 o f g)) :=
  PE.le (pe_cmpR ho ha hb hm) (rd_op hr)
end
end AL
set_option Elab.async false
set_option linter.all false
set_option autoImplicit false
set_option maxRecDepth 100000
set_option maxHeartbeats 4000000
namespace AL
open PySem PySem.Spec PyProof.Rows L2
def asL (cs : Cells) : Pv → Option (List Pv)
  | .lst xs => some xs
  | .ref k => match cs[k]? with
    | some (.lst xs) => some xs
    | _ => none
  | _ => none
def asT : Pv → Option (List Pv)
  | .tup xs => some xs
  | _ => none
@[simp] theorem asL_lst (cs : Cells) (xs : List Pv) : asL cs (.lst xs) = some xs := rfl
@[simp] theorem asT_tup (xs : List Pv) : asT (.tup xs) = some xs := rfl
section
variable {K : PySem.W.Frag} {mg : Str → Option Value} {U H : Hp} {μ : List Addr} {cs : Cells}
theorem asL_ok {p : Pv} {v : V} {xs : List Pv} (r : Rel0 K mg cs μ U H) (h : RepV K mg U μ p v) (e : asL cs p = some xs) : ∃ a ws, v = .ref a ∧ SqL K H a ws ∧ RepVs K mg U μ xs ws := by
  cases h with
  | lst s q => cases e; exact ⟨_, _, rfl, r.vh.l s, q⟩
  | @ref k a m =>
    have e : (match cs[k]? with | some (.lst xs) => some xs | _ => none) = some xs := e
    split at e
    · rename_i ys hk
      cases e
      obtain ⟨ws, h1, h2⟩ := r.cel k _ a hk m
      exact ⟨a, ws, rfl, .of h1, h2⟩
    · cases e
  | _ => cases e
theorem asT_ok {p : Pv} {v : V} {xs : List Pv} (r : Rel0 K mg cs μ U H) (h : RepV K mg U μ p v) (e : asT p = some xs) : ∃ a ws, v = .ref a ∧ SqT K H a ws ∧ RepVs K mg U μ xs ws := by
  cases h with
  | tup s q => cases e; exact ⟨_, _, rfl, .of (r.vh _ _ s), q⟩
  | _ => cases e
theorem asT_okH {p : Pv} {v : V} {xs : List Pv} (r : Rel0 K mg cs μ U H) (h : RepV K mg U μ p v) (e : asT p = some xs) : ∃ a ws, v = .ref a ∧ H a = some (.tup ws) ∧ RepVs K mg U μ xs ws := by
  cases h with
  | tup s q => cases e; exact ⟨_, _, rfl, r.vh _ _ s, q⟩
  | _ => cases e
/-- a new list, a new tuple, handed out -/
theorem out_lst {E : XK} {Q : VK} {ps : List Pv} {ws : List V} (r : Rel0 K mg cs μ U H) (q : RepVs K mg U μ ps ws) (h : Out K mg (RepV K mg) E U H μ (.ok (.lst ps) cs) Q) : ∀ p, H p = none → Q (.ref p) (upd H p (.lst ws)) := fun p hp => by
  obtain ⟨r1, g1⟩ := r.freeze (o := .lst ws) hp
  exact h _ _ _ _ g1 r1 (.lst (.of upd_same) (q.mono g1.vv g1.mm))
theorem out_tup {E : XK} {Q : VK} {ps : List Pv} {ws : List V} (r : Rel0 K mg cs μ U H) (q : RepVs K mg U μ ps ws) (h : Out K mg (RepV K mg) E U H μ (.ok (.tup ps) cs) Q) : ∀ p, H p = none → Q (.ref p) (upd H p (.tup ws)) := fun p hp => by
  obtain ⟨r1, g1⟩ := r.freeze (o := .tup ws) hp
  exact h _ _ _ _ g1 r1 (.tup upd_same (q.mono g1.vv g1.mm))
/-- a new mutable list -/
theorem out_cell {E : XK} {Q : VK} {ps : List Pv} {ws : List V} (r : Rel0 K mg cs μ U H) (q : RepVs K mg U μ ps ws) (h : Out K mg (RepV K mg) E U H μ (.ok (.ref cs.length) (cs ++ [.lst ps])) Q) : ∀ p, H p = none → Q (.ref p) (upd H p (.lst ws)) := fun p hp => by
  obtain ⟨r1, g1⟩ := r.hidden (o := .lst ws) hp
  have hm : p ∉ μ := fun z => r.there z hp
  have pm : μ <+: μ ++ [p] := List.prefix_append _ _
  have r2 := r1.cell (p := p) (c := .lst ps) ⟨ws, upd_same, q.mono (Ex.refl _) pm⟩ (r.vh.none hp) hm
  refine h _ U _ (μ ++ [p]) ⟨Ex.refl _, pm, fun a o h1 h2 h3 => ?_⟩ r2 (.ref ?_)
  · obtain ⟨a1, a2, a3⟩ := g1.hid a o h1 h2 h3
    refine ⟨a1, a2, fun z => ?_⟩
    rcases List.mem_append.mp z with z | z
    · exact a3 z
    · exact ne_of_none h1 hp (by simpa using z)
  · rw [← r.len, List.getElem?_append_right (Nat.le_refl _), Nat.sub_self]; rfl
/-- a value as it is -/
theorem out_val {E : XK} {Q : VK} {p : Pv} {v : V} (r : Rel0 K mg cs μ U H) (q : RepV K mg U μ p v) (h : Out K mg (RepV K mg) E U H μ (.ok p cs) Q) : Q v H := h _ _ _ _ Gr.refl r q
end
def mulOk (i j : Int) : Bool := decide (i.natAbs.log2 + j.natAbs.log2 < 100000000)
theorem mulOk.ok {i j : Int} (h : mulOk i j = true) : IntMulOk i j := by
  have b : ∀ x : Int, Builtin.Int.intBits x ≤ x.natAbs.log2 + 1 := fun x => by
    unfold Builtin.Int.intBits
    split <;> omega
  have h1 := b i
  have h2 := b j
  have h3 : i.natAbs.log2 + j.natAbs.log2 < 100000000 := of_decide_eq_true h
  have e : bitsLine = 134217728 := by decide
  unfold IntMulOk
  intro z
  rw [Bool.and_eq_true] at z
  have z2 := z.2
  unfold Builtin.Int.intTooBig at z2
  have z3 := of_decide_eq_true z2
  rw [e] at z3
  omega
def fdivOk (j : Int) : Bool := decide (j ≠ 0) && decide (j.natAbs.log2 < 9000)
def powOk (i j : Int) : Bool := decide (0 ≤ j) && decide (j ≤ 1000000) && decide (i.natAbs < 2 ^ 64)
def fits (n : Nat) : Bool := decide (n ≤ 16777216)
theorem fits.ok {n : Nat} (h : fits n = true) : n ≤ sizeLine := by
  rw [sizeLine_eq]
  exact of_decide_eq_true h
def guard_ {α : Type} (b : Bool) (r : Res α) : Res α := if b = true then r else .bad
@[simp] theorem guard_true {α : Type} (r : Res α) : guard_ true r = r := rfl
theorem guard_of {α : Type} {b : Bool} (h : b = true) (r : Res α) : guard_ b r = r := if_pos h
section
variable {K : PySem.W.Frag} {mg : Str → Option Value}
theorem out_guard {α β : Type} {R : Hp → List Addr → α → β → Prop} {E : XK} {U H : Hp} {μ : List Addr} {b : Bool} {r : Res α} {Q : β → Hp → Prop} (h : Out K mg R E U H μ (guard_ b r) Q) : b = true ∧ Out K mg R E U H μ r Q := by
  unfold guard_ at h
  split at h
  · rename_i q; exact ⟨q, h⟩
  · exact h.elim
end
def oAdd : F2 := fun x y cs => match x, y with
  | .int i, .int j => .ok (.int (i + j)) cs
  | .str a, .str b => guard_ (fits (a.length + b.length)) (.ok (.str (a ++ b)) cs)
  | .tup a, .tup b => guard_ (fits (a.length + b.length)) (.ok (.tup (a ++ b)) cs)
  | x, y => match asL cs x, asL cs y with
    | some a, some b => guard_ (fits (a.length + b.length)) (.ok (.lst (a ++ b)) cs)
    | _, _ => .bad
def rCatL (K : PySem.W.Frag) : R2 := fun x y H Q => ∃ l b xs zs, x = .ref l ∧ y = .ref b ∧ SqL K H l xs ∧ SqL K H b zs ∧ xs.length + zs.length ≤ sizeLine ∧ ∀ p, H p = none → Q (.ref p) (upd H p (.lst (xs ++ zs)))
section
variable {X : Cx}
theorem op_catL : OpR X (binaryOp .Add) (rCatL X.K) := by
  intro pins s σ H x y v u Q I rx ry h
  obtain ⟨l, b, xs, zs, rfl, rfl, hl, hb, hz, q⟩ := h
  cases rx
  cases ry
  obtain ⟨its, r1, p1, _⟩ := I.list hl
  obtain ⟨its2, r2, p2, _⟩ := I.list hb
  obtain ⟨⟨cls, dd, data, sl⟩, ho, hc, n, hd⟩ := p1.isList
  obtain ⟨⟨cls2, dd2, data2, sl2⟩, ho2, hc2, n2, hd2⟩ := p2.isList
  simp only at hc hd hc2 hd2
  subst hc hd hc2 hd2
  have e : its.toArray ++ its2.toArray = (its ++ its2).toArray := by simp
  have l1 := r1.length
  have l2 := r2.length
  refine concat_meets ⟨_, ho, rfl⟩ ⟨_, ho2, rfl⟩ noFill_list_add seq_list_add PySem.F.slot_list_add PySem.F.entry_list_add (PySem.F.args_list_add_2 _ _) (list_addW l b its.toArray its2.toArray n n2 dd dd2 sl sl2 (by simp; omega)) ⟨ho, ho2, ?_⟩
  rw [e]
  exact ⟨.ref _, _, I.lnew (t' := s.toks) (r1.append r2) (by rw [List.length_append]; omega), rfl, q _ I.fresh⟩
end
def rAdd (K : PySem.W.Frag) : R2 := fun x y H Q => (rI0 fun i j => .int (i + j)) x y H Q ∨ (∃ i j, x = .str i ∧ y = .str j ∧ i.length + j.length ≤ sizeLine ∧ Q (.str (i ++ j)) H) ∨ rCatA K x y H Q ∨ rCatL K x y H Q
theorem op_addA {X : Cx} : OpR X (binaryOp .Add) (rAdd X.K) := op_add.or (op_add_str.or (op_catA.or op_catL))
theorem ok_add {K : PySem.W.Frag} {mg : Str → Option Value} : Ok2 K mg oAdd (rAdd K) := by
  intro E x y cs v w U H μ Q r hx hy h
  unfold oAdd at h
  split at h
  · cases hx; cases hy
    exact .inl ⟨_, _, rfl, rfl, out_val r (.int _) h⟩
  · cases hx; cases hy
    obtain ⟨hz, h⟩ := out_guard h
    exact .inr (.inl ⟨_, _, rfl, rfl, fits.ok hz, out_val r (.str _) h⟩)
  · rename_i a b
    obtain ⟨hz, h⟩ := out_guard h
    obtain ⟨a1, w1, rfl, s1, q1⟩ := asT_ok r hx rfl
    obtain ⟨a2, w2, rfl, s2, q2⟩ := asT_ok r hy rfl
    refine .inr (.inr (.inl ⟨a1, a2, w1, w2, rfl, rfl, s1, s2, ?_, fun e => ?_, fun e1 e2 => ?_, fun _ _ => out_tup r (q1.append q2) h⟩))
    · rw [← q1.length, ← q2.length]; exact fits.ok hz
    · have ea : a = [] := List.length_eq_zero_iff.mp (by rw [q1.length, e]; rfl)
      subst ea
      exact out_val r hy h
    · have eb : b = [] := List.length_eq_zero_iff.mp (by rw [q2.length, e2]; rfl)
      subst eb
      rw [List.append_nil] at h
      exact out_val r hx h
  · split at h
    · rename_i a b ea eb
      obtain ⟨hz, h⟩ := out_guard h
      obtain ⟨a1, w1, rfl, s1, q1⟩ := asL_ok r hx ea
      obtain ⟨a2, w2, rfl, s2, q2⟩ := asL_ok r hy eb
      refine .inr (.inr (.inr ⟨a1, a2, w1, w2, rfl, rfl, s1, s2, ?_, out_lst r (q1.append q2) h⟩))
      rw [← q1.length, ← q2.length]; exact fits.ok hz
    · exact h.elim
def oSub : F2 := fun x y cs => match x, y with
  | .int i, .int j => .ok (.int (i - j)) cs
  | _, _ => .bad
def oMul : F2 := fun x y cs => match x, y with
  | .int i, .int j => guard_ (mulOk i j) (.ok (.int (i * j)) cs)
  | _, _ => .bad
def oFdiv : F2 := fun x y cs => match x, y with
  | .int i, .int j => guard_ (fdivOk j) (.ok (.int (i.fdiv j)) cs)
  | _, _ => .bad
def oMod : F2 := fun x y cs => match x, y with
  | .int i, .int j => guard_ (decide (j ≠ 0)) (.ok (.int (i.fmod j)) cs)
  | _, _ => .bad
def oPow : F2 := fun x y cs => match x, y with
  | .int i, .int j => guard_ (powOk i j) (.ok (.int (i ^ j.toNat)) cs)
  | _, _ => .bad
theorem ok_sub {K : PySem.W.Frag} {mg : Str → Option Value} : Ok2 K mg oSub (rI0 fun i j => .int (i - j)) := by
  intro E x y cs v w U H μ Q r hx hy h
  unfold oSub at h
  split at h
  · cases hx; cases hy
    exact ⟨_, _, rfl, rfl, out_val r (.int _) h⟩
  · exact h.elim
def rMulG : R2 := rI (fun i j => mulOk i j = true) fun i j => .int (i * j)
theorem op_mulG {X : Cx} : OpR X (binaryOp .Mult) rMulG := opI fun _ _ _ _ _ _ _ hc q => mul_int q (mulOk.ok hc)
theorem ok_mul {K : PySem.W.Frag} {mg : Str → Option Value} : Ok2 K mg oMul rMulG := by
  intro E x y cs v w U H μ Q r hx hy h
  unfold oMul at h
  split at h
  · cases hx; cases hy
    obtain ⟨hz, h⟩ := out_guard h
    exact ⟨_, _, rfl, rfl, hz, out_val r (.int _) h⟩
  · exact h.elim
def rFdivG : R2 := rI (fun _ j => fdivOk j = true) fun i j => .int (i.fdiv j)
theorem op_fdivG {X : Cx} : OpR X (binaryOp .FloorDiv) rFdivG := opI fun i j _ _ _ _ _ hc q => by
  have hc := Bool.and_eq_true_iff.mp hc
  exact floordiv_int (of_decide_eq_true hc.1) q (.inl (PyProof.noPylong_of_log2 (of_decide_eq_true hc.2)))
theorem ok_fdiv {K : PySem.W.Frag} {mg : Str → Option Value} : Ok2 K mg oFdiv rFdivG := by
  intro E x y cs v w U H μ Q r hx hy h
  unfold oFdiv at h
  split at h
  · cases hx; cases hy
    obtain ⟨hz, h⟩ := out_guard h
    exact ⟨_, _, rfl, rfl, hz, out_val r (.int _) h⟩
  · exact h.elim
theorem ok_mod {K : PySem.W.Frag} {mg : Str → Option Value} : Ok2 K mg oMod (rI (fun _ j => j ≠ 0) fun i j => .int (i.fmod j)) := by
  intro E x y cs v w U H μ Q r hx hy h
  unfold oMod at h
  split at h
  · cases hx; cases hy
    obtain ⟨hz, h⟩ := out_guard h
    exact ⟨_, _, rfl, rfl, of_decide_eq_true hz, out_val r (.int _) h⟩
  · exact h.elim
theorem ok_pow {K : PySem.W.Frag} {mg : Str → Option Value} : Ok2 K mg oPow (rI CPow fun i j => .int (i ^ j.toNat)) := by
  intro E x y cs v w U H μ Q r hx hy h
  unfold oPow at h
  split at h
  · cases hx; cases hy
    obtain ⟨hz, h⟩ := out_guard h
    have h1 := Bool.and_eq_true_iff.mp hz
    have h2 := Bool.and_eq_true_iff.mp h1.1
    exact ⟨_, _, rfl, rfl, ⟨of_decide_eq_true h2.1, of_decide_eq_true h2.2, of_decide_eq_true h1.2⟩, out_val r (.int _) h⟩
  · exact h.elim
def oNeg : Pv → Cells → Res Pv := fun x cs => match x with
  | .int i => .ok (.int (-i)) cs
  | _ => .bad
def oCmpI (p : Int → Int → Bool) : F2 := fun x y cs => match x, y with
  | .int i, .int j => .ok (.bl (p i j)) cs
  | _, _ => .bad
abbrev oLe : F2 := oCmpI fun i j => decide (i ≤ j)
abbrev oGt : F2 := oCmpI fun i j => decide (j < i)
abbrev oGe : F2 := oCmpI fun i j => decide (j ≤ i)
theorem ok_cmpI {K : PySem.W.Frag} {mg : Str → Option Value} {p : Int → Int → Bool} : Ok2 K mg (oCmpI p) (rI0 fun i j => .bl (p i j)) := by
  intro E x y cs v w U H μ Q r hx hy h
  unfold oCmpI at h
  split at h
  · cases hx; cases hy
    exact ⟨_, _, rfl, rfl, out_val r (.bl _) h⟩
  · exact h.elim
mutual
def toPy : Pv → Option PyData
  | .non => some .none
  | .bl b => some (.bool b)
  | .int i => some (.int i)
  | .str x => some (.str x)
  | .tup xs => (toPys xs).map .tuple
  | .lst xs => (toPys xs).map .list
  | _ => none
def toPys : List Pv → Option (List PyData)
  | [] => some []
  | x :: xs => match toPy x, toPys xs with
    | some d, some ds => some (d :: ds)
    | _, _ => none
end
def deref (cs : Cells) : Pv → Pv
  | .ref k => match cs[k]? with
    | some (.lst xs) => .lst xs
    | _ => .ref k
  | p => p
mutual
theorem toPy_ok {K : PySem.W.Frag} {mg : Str → Option Value} {U H : Hp} {μ : List Addr} (e : Ex U H) : ∀ {p : Pv} {v : V} {d : PyData}, RepV K mg U μ p v → toPy p = some d → Dp K H v d
  | _, _, _, .non, h => by cases h; exact .non
  | _, _, _, .bl b, h => by cases h; exact .bl b
  | _, _, _, .int i, h => by cases h; exact .int i
  | _, _, _, .str x, h => by cases h; exact .str x
  | _, _, _, .tup s r, h => by
    obtain ⟨ds, h1, h2⟩ := Option.map_eq_some_iff.mp h
    subst h2
    exact .tup (.of (e _ _ s)) (toPys_ok e r h1)
  | _, _, _, .lst s r, h => by
    obtain ⟨ds, h1, h2⟩ := Option.map_eq_some_iff.mp h
    subst h2
    exact .lst (e.l s) (toPys_ok e r h1)
  | _, _, _, .ref _, h => by cases h
  | _, _, _, .obj _ _ _ _, h => by cases h
  | _, _, _, .glo _, h => by cases h
  | _, _, _, .ty _, h => by cases h
  | _, _, _, .dk _ _ _, h => by cases h
  | _, _, _, .dt _ _ _, h => by cases h
  | _, _, _, .zk _ _ _, h => by cases h
  | _, _, _, .zt _ _ _, h => by cases h
theorem toPys_ok {K : PySem.W.Frag} {mg : Str → Option Value} {U H : Hp} {μ : List Addr} (e : Ex U H) : ∀ {ps : List Pv} {vs : List V} {ds : List PyData}, RepVs K mg U μ ps vs → toPys ps = some ds → DpAll K H vs ds
  | _, _, _, .nil, h => by cases h; exact .nil
  | _, _, _, .cons (p := p) (ps := ps) r rs, h => by
    unfold toPys at h
    split at h
    · rename_i d ds h1 h2
      cases h
      exact .cons (toPy_ok e r h1) (toPys_ok e rs h2)
    · cases h
end
theorem deref_ok {K : PySem.W.Frag} {mg : Str → Option Value} {U H : Hp} {μ : List Addr} {cs : Cells} {p : Pv} {v : V} {d : PyData} (r : Rel0 K mg cs μ U H) (h : RepV K mg U μ p v) (e : toPy (deref cs p) = some d) : Dp K H v d := by
  unfold deref at e
  split at e
  · rename_i k
    cases h with
    | ref m =>
      split at e
      · rename_i xs hk
        obtain ⟨ds, h1, h2⟩ := Option.map_eq_some_iff.mp e
        subst h2
        obtain ⟨ws, q1, q2⟩ := r.cel k _ _ hk m
        exact .lst (.of q1) (toPys_ok r.vh q2 h1)
      · cases e
  · exact toPy_ok r.vh h e
def eqD (neg : Bool) : F2 := fun x y cs => match toPy (deref cs x), toPy (deref cs y) with
  | some d, some e => guard_ (SeqAt.shaped d && SeqAt.shaped e) (.ok (.bl (if neg then !PyData.eqv d e else PyData.eqv d e)) cs)
  | _, _ => .bad
abbrev oEq : F2 := eqD false
abbrev oNe : F2 := eqD true
theorem ok_eqD {K : PySem.W.Frag} {mg : Str → Option Value} : Ok2 K mg oEq (rEqD K) := by
  intro E x y cs v w U H μ Q r hx hy h
  unfold oEq eqD at h
  split at h
  · rename_i d e h1 h2
    obtain ⟨hz, h⟩ := out_guard h
    have hz := Bool.and_eq_true_iff.mp hz
    exact ⟨d, e, deref_ok r hx h1, deref_ok r hy h2, hz.1, hz.2, out_val r (.bl _) h⟩
  · exact h.elim
theorem ok_neD {K : PySem.W.Frag} {mg : Str → Option Value} : Ok2 K mg oNe (rNeD K) := by
  intro E x y cs v w U H μ Q r hx hy h
  unfold oNe eqD at h
  split at h
  · rename_i d e h1 h2
    obtain ⟨hz, h⟩ := out_guard h
    have hz := Bool.and_eq_true_iff.mp hz
    exact ⟨d, e, deref_ok r hx h1, deref_ok r hy h2, hz.1, hz.2, out_val r (.bl _) h⟩
  · exact h.elim
theorem atI_rep {K : PySem.W.Frag} {mg : Str → Option Value} {U : Hp} {μ : List Addr} {ps : List Pv} {ws : List V} {i : Int} {p : Pv} (q : RepVs K mg U μ ps ws) (h : atI ps i = some p) : ∃ v, atI ws i = some v ∧ RepV K mg U μ p v := by
  unfold atI at h ⊢
  rw [← q.length]
  cases e : ixN ps.length i with
  | none => rw [e] at h; cases h
  | some j =>
    rw [e] at h
    exact q.at h
def oIx : F2 := fun x y cs => match x, y with
  | .str z, .int i => match atI z.cps.toList i with
    | some c => guard_ (fits z.length) (.ok (.str ⟨#[c]⟩) cs)
    | none => .bad
  | .tup xs, .int i => match atI xs i with
    | some v => .ok v cs
    | none => .bad
  | x, .int i => match asL cs x with
    | some xs => match atI xs i with
      | some v => .ok v cs
      | none => .bad
    | none => .bad
  | _, _ => .bad
theorem ok_ix {K : PySem.W.Frag} {mg : Str → Option Value} : Ok2 K mg oIx (rIx K) := by
  intro E x y cs v w U H μ Q r hx hy h
  unfold oIx at h
  split at h
  · cases hx; cases hy
    split at h
    · rename_i c hc
      obtain ⟨hz, h⟩ := out_guard h
      exact .inr (.inr ⟨_, _, c, rfl, rfl, fits.ok hz, hc, out_val r (.str _) h⟩)
    · exact h.elim
  · cases hy
    split at h
    · rename_i p hp
      obtain ⟨a, ws, rfl, s, q⟩ := asT_ok r hx rfl
      obtain ⟨u, h1, h2⟩ := atI_rep q hp
      exact .inr (.inl ⟨a, ws, _, u, rfl, rfl, s, h1, out_val r h2 h⟩)
    · exact h.elim
  · cases hy
    split at h
    · rename_i xs hxs
      split at h
      · rename_i p hp
        obtain ⟨a, ws, rfl, s, q⟩ := asL_ok r hx hxs
        obtain ⟨u, h1, h2⟩ := atI_rep q hp
        exact .inl ⟨a, ws, _, u, rfl, rfl, s, h1, out_val r h2 h⟩
      · exact h.elim
    · exact h.elim
  · exact h.elim
def cut {α : Type} (xs : List α) (lo hi : Option Int) : List α := (xs.drop (HT.sIx xs.length 0 lo)).take (HT.sIx xs.length xs.length hi - HT.sIx xs.length 0 lo)
theorem cut_rep {K : PySem.W.Frag} {mg : Str → Option Value} {U : Hp} {μ : List Addr} {ps : List Pv} {ws : List V} (q : RepVs K mg U μ ps ws) (lo hi : Option Int) : RepVs K mg U μ (cut ps lo hi) (cutV ws lo hi) := by
  unfold cut cutV
  rw [← q.length]
  exact (q.drop _).take _
end AL
set_option Elab.async false
set_option linter.all false
set_option autoImplicit false
set_option maxRecDepth 100000
set_option maxHeartbeats 4000000
namespace AL
open PySem PySem.Spec PyProof.Rows L2
def tru : Pv → Cells → Res Bool := fun v cs => match v with
  | .bl b => .ok b cs
  | .non => .ok false cs
  | .int i => .ok (i != 0) cs
  | .str y => guard_ (fits y.length) (.ok ((y.length : Int) != 0) cs)
  | .tup xs => .ok (!xs.isEmpty) cs
  | v => match asL cs v with
    | some xs => .ok (!xs.isEmpty) cs
    | none => match v with
      | .ref k => match cs[k]? with
        | some (.dK kvs) => .ok (!kvs.isEmpty) cs
        | _ => .bad
      | _ => .bad
def fTru (f : FE) : FT := fun sl cs => (f sl cs).bind tru
def fTst (f : FE) : FT := fun sl cs => (f sl cs).bind fun v cs => match v with
  | .bl b => .ok b cs
  | _ => .bad
def fNot (f : FT) : FT := fun sl cs => (f sl cs).bind fun b cs => .ok (!b) cs
def fAnd (f g : FT) : FT := fun sl cs => (f sl cs).bind fun b cs1 => if b = true then g sl cs1 else .ok false cs1
def fOr (f g : FT) : FT := fun sl cs => (f sl cs).bind fun b cs1 => if b = true then .ok true cs1 else g sl cs1
def fIfE (c : FT) (f g : FE) : FE := fun sl cs => (c sl cs).bind fun b cs1 => if b = true then f sl cs1 else g sl cs1
def fAndV (f g : FE) : FE := fun sl cs => (f sl cs).bind fun v cs1 => match v with
  | .bl b => if b = true then g sl cs1 else .ok (.bl false) cs1
  | _ => .bad
def fOrV (f g : FE) : FE := fun sl cs => (f sl cs).bind fun v cs1 => match v with
  | .bl b => if b = true then .ok (.bl true) cs1 else g sl cs1
  | _ => .bad
def fNotV (f : FE) : FE := fun sl cs => (f sl cs).bind fun v cs1 => match v with
  | .bl b => .ok (.bl (!b)) cs1
  | _ => .bad
def fChain (o o' : F2) (f g h : FE) : FE := fun sl cs => (f sl cs).bind fun x cs1 => (g sl cs1).bind fun y cs2 => (o x y cs2).bind fun z cs3 => match z with
  | .bl b => if b = true then (h sl cs3).bind fun w cs4 => o' y w cs4 else .ok (.bl false) cs3
  | _ => .bad
section
variable {K : PySem.W.Frag} {mg : Str → Option Value} {U H : Hp} {μ : List Addr} {cs : Cells}
theorem RepVs.isEmpty {ps : List Pv} {ws : List V} (q : RepVs K mg U μ ps ws) : ps.isEmpty = ws.isEmpty := by cases q <;> rfl
theorem tru_of {E : XK} {v : Pv} {x : V} {Q : Bool → Hp → Prop} (r : Rel0 K mg cs μ U H) (hx : RepV K mg U μ v x) (h : Out K mg (fun _ _ a b => a = b) E U H μ (tru v cs) Q) : ∃ k, TruV K x H k ∧ Q k H := by
  have go : ∀ {b : Bool}, Out K mg (fun _ _ a b => a = b) E U H μ (.ok b cs) Q → Q b H := fun h => h _ _ _ _ Gr.refl r rfl
  unfold tru at h
  split at h
  · cases hx; exact ⟨_, rfl, go h⟩
  · cases hx; exact ⟨_, rfl, go h⟩
  · cases hx; exact ⟨_, rfl, go h⟩
  · cases hx
    obtain ⟨hz, h⟩ := out_guard h
    exact ⟨_, ⟨fits.ok hz, rfl⟩, go h⟩
  · obtain ⟨a, ws, rfl, s, q⟩ := asT_ok r hx rfl
    exact ⟨_, .inr (.inl ⟨ws, s, by rw [← q.isEmpty]⟩), go h⟩
  · split at h
    · rename_i xs e
      obtain ⟨a, ws, rfl, s, q⟩ := asL_ok r hx e
      exact ⟨_, .inl ⟨ws, s, by rw [← q.isEmpty]⟩, go h⟩
    · split at h
      · rename_i k _ _ _ _ _ _ _
        cases hx with
        | ref m =>
          split at h
          · rename_i kvs hk
            obtain ⟨ws, h1, h2, h3⟩ := r.cel _ _ _ hk m
            refine ⟨_, .inr (.inr ⟨ws, h1, ?_⟩), go h⟩
            cases kvs with
            | nil => cases ws with
              | nil => rfl
              | cons _ _ => cases h2
            | cons _ _ => cases ws with
              | nil => cases h2
              | cons _ _ => rfl
          · exact h.elim
      · exact h.elim
end
section
variable {X : Cx} {W : WE} {f g h : FE} {c d : FT} {a b e : Expr} {es rest : List Expr} {pos : Pos}
theorem t_val (ha : PE X a (rdE X.K X.mg W f)) (he : ∀ whole, isTrue a X.env whole = (do let v ← whole; standAt a.pos; holding [v] (truthy v)) := by intro _; rfl) : PT X a (rdT X.K X.mg W (fTru f)) := by
  refine PT.le (pt_truth ha he) fun σ H Q q => ?_
  obtain ⟨sl, cs, μ, U, r0, rs, q⟩ := q
  exact ⟨sl, cs, μ, U, r0, rs, Out.seq q fun x cs1 w U1 H1 μ1 _ g1 r1 p1 h1 => tru_of r1 p1 h1⟩
theorem rd_tst {te : TE} {t : FE} (l : ∀ σ H Q, rdE X.K X.mg W t σ H Q → te σ H Q) (σ : L2.St) (H : Hp) (Q : Bool → Hp → Prop) (q : rdT X.K X.mg W (fTst t) σ H Q) : tTest te σ H Q := by
  refine l σ H _ ?_
  obtain ⟨sl, cs, μ, U, r0, rs, q⟩ := q
  refine ⟨sl, cs, μ, U, r0, rs, Out.seq q fun x cs1 w U1 H1 μ1 _ g1 r1 p1 h1 => ?_⟩
  split at h1
  · cases p1
    exact ⟨_, rfl, h1 _ _ _ _ Gr.refl r1 rfl⟩
  · exact h1.elim
theorem t_cmp {op : CmpOp} {o : F2} {r : R2} (ho : OpR X (compareOp op) r) (hr : Ok2 X.K X.mg o r) (ha : PE X a (rdE X.K X.mg W f)) (hb : PE X b (rdE X.K X.mg W g)) (hm : behindInMarks op b = false := by first | exact nomark _ | rfl) : PT X (.Compare a [op] [b] pos) (rdT X.K X.mg W (fTst (f2 o f g))) :=
  PT.le (pt_cmpR ho ha hb hm) (rd_tst (rd_op hr))
theorem rd_chain {o o' : F2} {r r' : R2} (hr : Ok2 X.K X.mg o r) (hr' : Ok2 X.K X.mg o' r') (σ : L2.St) (H : Hp) (Q : VK) (q : rdE X.K X.mg W (fChain o o' f g h) σ H Q) : tChain r r' (rdE X.K X.mg W f) (rdE X.K X.mg W g) (rdE X.K X.mg W h) σ H Q := by
  obtain ⟨sl, cs, μ, U, r0, rs, q⟩ := q
  refine ⟨sl, cs, μ, U, r0, rs, Out.seq q fun x cs1 w U1 H1 μ1 _ g1 r1 p1 h1 => ⟨sl, cs1, μ1, U1, r1, rs.mono g1, Out.seq h1 fun y cs2 w2 U2 H2 μ2 _ g2 r2 p2 h2 => ?_⟩⟩
  refine hr _ x y cs2 w w2 U2 H2 μ2 _ r2 (p1.mono g2.vv g2.mm) p2 (Out.seq h2 fun z cs3 w3 U3 H3 μ3 _ g3 r3 p3 h3 => ?_)
  split at h3
  · cases p3
    rename_i b _
    refine ⟨b, rfl, ?_⟩
    cases b with
    | true =>
      rw [if_pos rfl] at h3 ⊢
      refine ⟨sl, cs3, μ3, U3, r3, ((rs.mono g1).mono g2).mono g3, Out.seq h3 fun z4 cs4 w4 U4 H4 μ4 _ g4 r4 p4 h4 => ?_⟩
      exact hr' _ y z4 cs4 w2 w4 U4 H4 μ4 Q r4 ((p2.mono g3.vv g3.mm).mono g4.vv g4.mm) p4 h4
    | false =>
      rw [if_neg Bool.false_ne_true] at h3 ⊢
      exact out_val r3 (.bl _) h3
  · exact h3.elim
variable {cc : Expr}
theorem t_chain {op op' : CmpOp} {o o' : F2} {r r' : R2} (ho : OpR X (compareOp op) r) (ho' : OpR X (compareOp op') r') (hr : Ok2 X.K X.mg o r) (hr' : Ok2 X.K X.mg o' r') (ha : PE X a (rdE X.K X.mg W f)) (hb : PE X b (rdE X.K X.mg W g)) (hc : PE X cc (rdE X.K X.mg W h))
    (hm : lastMarks [op, op'] [b, cc] = false := by with_unfolding_all rfl) : PT X (.Compare a [op, op'] [b, cc] pos) (rdT X.K X.mg W (fTst (fChain o o' f g h))) := PT.le (pt_chain ho ho' ha hb hc hm) (rd_tst (rd_chain hr hr'))
theorem t_not (ha : PT X a (rdT X.K X.mg W c)) : PT X (.UnaryOp .Not a pos) (rdT X.K X.mg W (fNot c)) := by
  refine PT.le (pt_not ha) fun σ H Q q => ?_
  obtain ⟨sl, cs, μ, U, r0, rs, q⟩ := q
  exact ⟨sl, cs, μ, U, r0, rs, Out.seq q fun x cs1 w U1 H1 μ1 _ g1 r1 p1 h1 => h1 _ _ _ _ Gr.refl r1 (congrArg _ p1)⟩
theorem w_and1 (ha : PT X a (rdT X.K X.mg W c)) : PW X (.BoolOp .And [a] pos) (rdT X.K X.mg W c) := pw_and1 ha
theorem w_or1 (ha : PT X a (rdT X.K X.mg W c)) : PW X (.BoolOp .Or [a] pos) (rdT X.K X.mg W c) := pw_or1 ha
theorem w_and (ha : PT X a (rdT X.K X.mg W c)) (hb : PW X (.BoolOp .And (b :: rest) pos) (rdT X.K X.mg W d)) : PW X (.BoolOp .And (a :: b :: rest) pos) (rdT X.K X.mg W (fAnd c d)) := by
  refine PW.le (pw_and ha hb) fun σ H Q q => ?_
  obtain ⟨sl, cs, μ, U, r0, rs, q⟩ := q
  refine ⟨sl, cs, μ, U, r0, rs, Out.seq q fun x cs1 w U1 H1 μ1 _ g1 r1 p1 h1 => ?_⟩
  subst p1
  cases x with
  | true => rw [if_pos rfl] at h1 ⊢; exact ⟨sl, cs1, μ1, U1, r1, rs.mono g1, h1⟩
  | false => rw [if_neg Bool.false_ne_true] at h1 ⊢; exact h1 _ _ _ _ Gr.refl r1 rfl
theorem w_or (ha : PT X a (rdT X.K X.mg W c)) (hb : PW X (.BoolOp .Or (b :: rest) pos) (rdT X.K X.mg W d)) : PW X (.BoolOp .Or (a :: b :: rest) pos) (rdT X.K X.mg W (fOr c d)) := by
  refine PW.le (pw_or ha hb) fun σ H Q q => ?_
  obtain ⟨sl, cs, μ, U, r0, rs, q⟩ := q
  refine ⟨sl, cs, μ, U, r0, rs, Out.seq q fun x cs1 w U1 H1 μ1 _ g1 r1 p1 h1 => ?_⟩
  subst p1
  cases x with
  | true => rw [if_pos rfl] at h1 ⊢; exact h1 _ _ _ _ Gr.refl r1 rfl
  | false => rw [if_neg Bool.false_ne_true] at h1 ⊢; exact ⟨sl, cs1, μ1, U1, r1, rs.mono g1, h1⟩
theorem b_one {op} (h : PE X a (rdE X.K X.mg W f)) : PE X (.BoolOp op [a] pos) (rdE X.K X.mg W f) := pe_one h
theorem b_or (ha : PE X a (rdE X.K X.mg W f)) (hb : PE X (.BoolOp .Or (b :: rest) pos) (rdE X.K X.mg W g)) : PE X (.BoolOp .Or (a :: b :: rest) pos) (rdE X.K X.mg W (fOrV f g)) := by
  refine PE.le (pe_or ha hb) fun σ H Q q => ?_
  obtain ⟨sl, cs, μ, U, r0, rs, q⟩ := q
  refine ⟨sl, cs, μ, U, r0, rs, Out.seq q fun x cs1 w U1 H1 μ1 _ g1 r1 p1 h1 => ?_⟩
  split at h1
  · cases p1
    rename_i b' _
    refine ⟨b', rfl, ?_⟩
    cases b' with
    | true => rw [if_pos rfl] at h1 ⊢; exact out_val r1 (.bl _) h1
    | false => rw [if_neg Bool.false_ne_true] at h1 ⊢; exact ⟨sl, cs1, μ1, U1, r1, rs.mono g1, h1⟩
  · exact h1.elim
end
def fNil : FA := fun _ cs => .ok [] cs
def fCons (f : FE) (r : FA) : FA := fun sl cs => (f sl cs).bind fun v cs1 => (r sl cs1).bind fun vs cs2 => .ok (v :: vs) cs2
section
variable {X : Cx} {W : WE} {f : FE} {t : FA} {e : Expr} {es : List Expr} {pos : Pos}
theorem a_nil : PA X [] (rdA X.K X.mg W fNil) := PA.le pa_nil fun σ H Q q => by
  obtain ⟨sl, cs, μ, U, r0, rs, q⟩ := q
  exact q _ _ _ _ Gr.refl r0 .nil
theorem rd_cons (σ : L2.St) (H : Hp) (Q : List V → Hp → Prop) (q : rdA X.K X.mg W (fCons f t) σ H Q) : tCons (rdE X.K X.mg W f) (rdA X.K X.mg W t) σ H Q := by
  obtain ⟨sl, cs, μ, U, r0, rs, q⟩ := q
  refine ⟨sl, cs, μ, U, r0, rs, Out.seq q fun x cs1 w U1 H1 μ1 _ g1 r1 p1 h1 => ⟨sl, cs1, μ1, U1, r1, rs.mono g1, Out.seq h1 fun xs cs2 ws U2 H2 μ2 _ g2 r2 p2 h2 => ?_⟩⟩
  exact h2 _ _ _ _ Gr.refl r2 (.cons (p1.mono g2.vv g2.mm) p2)
theorem a_cons (ha : PE X e (rdE X.K X.mg W f)) (hr : PA X es (rdA X.K X.mg W t)) (hs : starEach (e :: es) X.env = (false, eval e X.env) :: starEach es X.env := by rfl) : PA X (e :: es) (rdA X.K X.mg W (fCons f t)) :=
  PA.le (pa_cons ha hr hs) rd_cons
end
def fTup (t : FA) : FE := fun sl cs => (t sl cs).bind fun vs cs1 => guard_ (fits vs.length) (.ok (.tup vs) cs1)
def fLst (t : FA) : FE := fun sl cs => (t sl cs).bind fun vs cs1 => guard_ (fits vs.length) (.ok (.lst vs) cs1)
def fLstC (t : FA) : FE := fun sl cs => (t sl cs).bind fun vs cs1 => guard_ (fits vs.length) (.ok (.ref cs1.length) (cs1 ++ [.lst vs]))
section
variable {X : Cx} {W : WE} {t : FA} {es : List Expr} {pos : Pos}
theorem b_tup {x1} (h : PA X es (rdA X.K X.mg W t)) : PE X (.Tuple es x1 pos) (rdE X.K X.mg W (fTup t)) := PE.le (pe_tup h) fun σ H Q q => by
  obtain ⟨sl, cs, μ, U, r0, rs, q⟩ := q
  refine ⟨sl, cs, μ, U, r0, rs, Out.seq q fun x cs1 w U1 H1 μ1 _ g1 r1 p1 h1 => ?_⟩
  obtain ⟨hz, h1⟩ := out_guard h1
  exact ⟨by rw [← p1.length]; exact fits.ok hz, out_tup r1 p1 h1⟩
theorem b_lst (h : PA X es (rdA X.K X.mg W t)) : PE X (.List es pos) (rdE X.K X.mg W (fLst t)) := PE.le (pe_lst h) fun σ H Q q => by
  obtain ⟨sl, cs, μ, U, r0, rs, q⟩ := q
  refine ⟨sl, cs, μ, U, r0, rs, Out.seq q fun x cs1 w U1 H1 μ1 _ g1 r1 p1 h1 => ?_⟩
  obtain ⟨hz, h1⟩ := out_guard h1
  exact ⟨by rw [← p1.length]; exact fits.ok hz, out_lst r1 p1 h1⟩
theorem b_lstC (h : PA X es (rdA X.K X.mg W t)) : PE X (.List es pos) (rdE X.K X.mg W (fLstC t)) := PE.le (pe_lst h) fun σ H Q q => by
  obtain ⟨sl, cs, μ, U, r0, rs, q⟩ := q
  refine ⟨sl, cs, μ, U, r0, rs, Out.seq q fun x cs1 w U1 H1 μ1 _ g1 r1 p1 h1 => ?_⟩
  obtain ⟨hz, h1⟩ := out_guard h1
  exact ⟨by rw [← p1.length]; exact fits.ok hz, out_cell r1 p1 h1⟩
end
abbrev FO := Sl → Cells → Res (Option Int)
def fNoPart : FO := fun _ cs => .ok none cs
def fPart (f : FE) : FO := fun sl cs => (f sl cs).bind fun v cs1 => match v with
  | .int i => .ok (some i) cs1
  | _ => .bad
def rdO (K : PySem.W.Frag) (mg : Str → Option Value) (W : WE) (f : FO) : TO := fun σ H Q => ∃ sl cs μ U, Rel0 K mg cs μ U H ∧ RelS K mg W.x U μ sl σ ∧ Out K mg (fun _ _ a b => a = b) (fun c d H => W.w c d σ H) U H μ (f sl cs) Q
theorem PO.le {X : Cx} {e : Option Expr} {t t' : TO} (h : PO X e t) (l : ∀ σ H Q, t' σ H Q → t σ H Q) : PO X e t' := ⟨fun pins s σ H Q I q => h.run pins s σ H Q I (l σ H Q q)⟩
def oSlc (x : Pv) (lo hi : Option Int) (cs : Cells) : Res Pv := match x with
  | .str z => guard_ (fits z.length) (.ok (.str (cutS z lo hi)) cs)
  | .tup xs => .ok (.tup (cut xs lo hi)) cs
  | x => match asL cs x with
    | some xs => .ok (.lst (cut xs lo hi)) cs
    | none => .bad
def fSlc (f : FE) (lo hi : FO) : FE := fun sl cs => (f sl cs).bind fun x cs1 => (lo sl cs1).bind fun l cs2 => (hi sl cs2).bind fun h cs3 => oSlc x l h cs3
section
variable {X : Cx} {W : WE} {f g : FE} {lo hi : FO} {a b : Expr} {l h : Option Expr} {pos p2 : Pos}
theorem b_ix (ha : PE X a (rdE X.K X.mg W f)) (hb : PE X b (rdE X.K X.mg W g)) (hs : PlainIx b := by exact fun _ _ => rfl) : PE X (.Subscript a b pos) (rdE X.K X.mg W (f2 oIx f g)) := PE.le (pe_ix ix_seq ha hb hs) (rd_op ok_ix)
theorem o_none : PO X none (rdO X.K X.mg W fNoPart) := PO.le po_none fun σ H Q q => by
  obtain ⟨sl, cs, μ, U, r0, rs, q⟩ := q
  exact q _ _ _ _ Gr.refl r0 rfl
theorem o_some (ha : PE X a (rdE X.K X.mg W f)) : PO X (some a) (rdO X.K X.mg W (fPart f)) := PO.le (po_some ha) fun σ H Q q => by
  obtain ⟨sl, cs, μ, U, r0, rs, q⟩ := q
  refine ⟨sl, cs, μ, U, r0, rs, Out.seq q fun x cs1 w U1 H1 μ1 _ g1 r1 p1 h1 => ?_⟩
  split at h1
  · cases p1
    exact ⟨_, rfl, h1 _ _ _ _ Gr.refl r1 rfl⟩
  · exact h1.elim
def rSlc (K : PySem.W.Frag) : V → Option Int → Option Int → Hp → VK → Prop := fun x lo hi H Q => rSlS x lo hi H Q ∨ rSlA K x lo hi H Q ∨ rSlL K x lo hi H Q
theorem sl_all : SlR X (rSlc X.K) := sl_str.or (sl_tupA.or sl_list)
theorem slc_ok {K : PySem.W.Frag} {mg : Str → Option Value} {E : XK} {x : Pv} {l h : Option Int} {cs : Cells} {v : V} {U H : Hp} {μ : List Addr} {Q : VK} (r : Rel0 K mg cs μ U H) (hx : RepV K mg U μ x v) (q : Out K mg (RepV K mg) E U H μ (oSlc x l h cs) Q) : rSlc K v l h H Q := by
  unfold oSlc at q
  split at q
  · cases hx
    obtain ⟨hz, q⟩ := out_guard q
    exact .inl ⟨_, rfl, fits.ok hz, out_val r (.str _) q⟩
  · obtain ⟨a, ws, rfl, s, rp⟩ := asT_ok r hx rfl
    refine .inr (.inl ⟨a, ws, rfl, s, fun e => ?_, fun _ => out_tup r (cut_rep rp l h) q⟩)
    rename_i xs
    have ec : cut xs l h = xs := by
      unfold cut
      rw [rp.length, e.1, e.2, List.drop_zero, Nat.sub_zero, ← rp.length]
      exact List.take_length
    rw [ec] at q
    exact out_val r hx q
  · split at q
    · rename_i xs e
      obtain ⟨a, ws, rfl, s, rp⟩ := asL_ok r hx e
      exact .inr (.inr ⟨a, ws, rfl, s, out_lst r (cut_rep rp l h) q⟩)
    · exact q.elim
theorem b_slc (ha : PE X a (rdE X.K X.mg W f)) (hl : PO X l (rdO X.K X.mg W lo)) (hh : PO X h (rdO X.K X.mg W hi)) : PE X (.Subscript a (.Slice l h none p2) pos) (rdE X.K X.mg W (fSlc f lo hi)) := PE.le (pe_slice sl_all ha hl hh) fun σ H Q q => by
  obtain ⟨sl, cs, μ, U, r0, rs, q⟩ := q
  refine ⟨sl, cs, μ, U, r0, rs, Out.seq q fun x cs1 w U1 H1 μ1 _ g1 r1 p1 h1 => ⟨sl, cs1, μ1, U1, r1, rs.mono g1, Out.seq h1 fun y cs2 w2 U2 H2 μ2 _ g2 r2 p2 h2 => ⟨sl, cs2, μ2, U2, r2, (rs.mono g1).mono g2, Out.seq h2 fun z cs3 w3 U3 H3 μ3 _ g3 r3 p3 h3 => ?_⟩⟩⟩
  subst p2
  subst p3
  exact slc_ok r3 ((p1.mono g2.vv g2.mm).mono g3.vv g3.mm) h3
end
abbrev FN := List Pv → Cells → Res Pv
def fCall (m : FN) (t : FA) : FE := fun sl cs => (t sl cs).bind fun vs cs1 => m vs cs1
def OkC (K : PySem.W.Frag) (mg : Str → Option Value) (m : FN) (r : List V → Hp → VK → Prop) : Prop := ∀ (E : XK) ps cs vs U H μ Q, Rel0 K mg cs μ U H → RepVs K mg U μ ps vs → Out K mg (RepV K mg) E U H μ (m ps cs) Q → r vs H Q
section
variable {X : Cx} {W : WE} {t : FA} {x : Str} {p pos : Pos} {e : Expr} {es : List Expr} {id T : String} {r : List V → Hp → VK → Prop} {m : FN}
theorem rd_cb (hr : OkC X.K X.mg m r) (σ : L2.St) (H : Hp) (Q : VK) (q : rdE X.K X.mg W (fCall m t) σ H Q) : tCB r (rdA X.K X.mg W t) σ H Q := by
  obtain ⟨sl, cs, μ, U, r0, rs, q⟩ := q
  exact ⟨sl, cs, μ, U, r0, rs, Out.seq q fun x cs1 w U1 H1 μ1 _ g1 r1 p1 h1 => hr _ _ _ _ _ _ _ _ r1 p1 h1⟩
theorem b_callB (hc : CallR X (.builtin id) r) (hr : OkC X.K X.mg m r) (hm : X.mg x = none) (hv : bootBuiltins x = some (.builtin id)) (ha : PA X (e :: es) (rdA X.K X.mg W t)) (hg : Gl X x := by rfl) (hn : x ≠ "__name__" := by decide) (hdb : (x == ("__debug__" : Str)) = false := by decide)
    (he : starEach (e :: es) X.env = (false, eval e X.env) :: starEach es X.env := by rfl) (hpl : (backTo pos (starEach es X.env)).any (·.1) = false := by rfl) : PE X (.Call (.Name x p) (e :: es) [] pos) (rdE X.K X.mg W (fCall m t)) :=
  PE.le (pe_callB hc hg hm hv ha hn hdb he hpl) (rd_cb hr)
theorem b_callTy (hc : CallR X (.type T) r) (hr : OkC X.K X.mg m r) (hm : X.mg x = none) (hv : bootBuiltins x = some (.type T)) (ha : PA X (e :: es) (rdA X.K X.mg W t)) (hg : Gl X x := by rfl) (hn : x ≠ "__name__" := by decide) (hdb : (x == ("__debug__" : Str)) = false := by decide)
    (he : starEach (e :: es) X.env = (false, eval e X.env) :: starEach es X.env := by rfl) (hpl : (backTo pos (starEach es X.env)).any (·.1) = false := by rfl) : PE X (.Call (.Name x p) (e :: es) [] pos) (rdE X.K X.mg W (fCall m t)) :=
  PE.le (pe_callTy hc hg hm hv ha hn hdb he hpl) (rd_cb hr)
/-- a built-in type's or a module's own name as a value -/
theorem b_ty {n : String} (hm : X.mg x = none) (hv : bootBuiltins x = some (.type n)) (hg : Gl X x := by rfl) (hn : x ≠ "__name__" := by decide) (hd : (x == ("__debug__" : Str)) = false := by decide) : PE X (.Name x pos) (rdE X.K X.mg W (fCon (.ty n))) :=
  PE.le (pe_bltn hg hm hv (show RelV (.ty n) _ from rfl) hn hd) fun σ H Q h => rd_con (fun _ _ => .ty n) σ H Q h
end
def mLen : FN := fun vs cs => match vs with
  | [.str z] => guard_ (fits z.length) (.ok (.int z.length) cs)
  | [.tup xs] => .ok (.int xs.length) cs
  | [x] => match asL cs x with
    | some xs => .ok (.int xs.length) cs
    | none => .bad
  | _ => .bad
def rLen (K : PySem.W.Frag) : List V → Hp → VK → Prop := fun xs H Q => ∃ x n, xs = [x] ∧ LenV K x H n ∧ Q (.int n) H
theorem ok_len {K : PySem.W.Frag} {mg : Str → Option Value} : OkC K mg mLen (rLen K) := by
  intro E ps cs vs U H μ Q r hx h
  unfold mLen at h
  split at h
  · cases hx with
    | cons h1 h2 =>
      cases h2; cases h1
      obtain ⟨hz, h⟩ := out_guard h
      exact ⟨_, _, rfl, ⟨fits.ok hz, rfl⟩, out_val r (.int _) h⟩
  · cases hx with
    | cons h1 h2 =>
      cases h2
      obtain ⟨a, ws, rfl, s, q⟩ := asT_ok r h1 rfl
      exact ⟨_, _, rfl, .inr ⟨ws, s, q.length⟩, out_val r (.int _) h⟩
  · cases hx with
    | cons h1 h2 =>
      cases h2
      split at h
      · rename_i xs e
        obtain ⟨a, ws, rfl, s, q⟩ := asL_ok r h1 e
        exact ⟨_, _, rfl, .inl ⟨ws, s, q.length⟩, out_val r (.int _) h⟩
      · exact h.elim
  · exact h.elim
def mAbs : FN := fun vs cs => match vs with
  | [.int i] => .ok (.int (if i < 0 then -i else i)) cs
  | _ => .bad
theorem ok_abs {K : PySem.W.Frag} {mg : Str → Option Value} : OkC K mg mAbs (fun xs H Q => ∃ i, xs = [.int i] ∧ Q (.int (if i < 0 then -i else i)) H) := by
  intro E ps cs vs U H μ Q r hx h
  unfold mAbs at h
  split at h
  · cases hx with
    | cons h1 h2 =>
      cases h2; cases h1
      exact ⟨_, rfl, out_val r (.int _) h⟩
  · exact h.elim
def mInt : FN := fun vs cs => match vs with
  | [.int i] => .ok (.int i) cs
  | [.bl k] => .ok (.int (if k then 1 else 0)) cs
  | _ => .bad
theorem ok_int {K : PySem.W.Frag} {mg : Str → Option Value} : OkC K mg mInt (fun xs H Q => (∃ i, xs = [.int i] ∧ Q (.int i) H) ∨ ∃ k, xs = [.bl k] ∧ Q (.int (if k then 1 else 0)) H) := by
  intro E ps cs vs U H μ Q r hx h
  unfold mInt at h
  split at h
  · cases hx with
    | cons h1 h2 =>
      cases h2; cases h1
      exact .inl ⟨_, rfl, out_val r (.int _) h⟩
  · cases hx with
    | cons h1 h2 =>
      cases h2; cases h1
      exact .inr ⟨_, rfl, out_val r (.int _) h⟩
  · exact h.elim
/-- ints in a list -/
def intsOf : List Pv → Option (List Int)
  | [] => some []
  | .int i :: r => (intsOf r).map (i :: ·)
  | _ => none
theorem intsOf_map : ∀ (ns : List Int), intsOf (ns.map Pv.int) = some ns
  | [] => rfl
  | n :: ns => by
    show (intsOf (ns.map Pv.int)).map (n :: ·) = _
    rw [intsOf_map ns]; rfl
theorem intsOf_eq : ∀ {ps : List Pv} {ns : List Int}, intsOf ps = some ns → ps = ns.map Pv.int
  | [], ns, h => by cases h; rfl
  | .int i :: r, ns, h => by
    obtain ⟨ms, h1, h2⟩ := Option.map_eq_some_iff.mp h
    subst h2
    rw [intsOf_eq h1]; rfl
  | .non :: _, _, h => by cases h
  | .bl _ :: _, _, h => by cases h
  | .str _ :: _, _, h => by cases h
  | .tup _ :: _, _, h => by cases h
  | .lst _ :: _, _, h => by cases h
  | .ref _ :: _, _, h => by cases h
  | .obj _ _ :: _, _, h => by cases h
  | .glo _ :: _, _, h => by cases h
  | .ty _ :: _, _, h => by cases h
  | .dk _ :: _, _, h => by cases h
  | .dt _ :: _, _, h => by cases h
  | .zk _ :: _, _, h => by cases h
  | .zt _ :: _, _, h => by cases h
def mSum : FN := fun vs cs => match vs with
  | [x] => match asL cs x with
    | some xs => match intsOf xs with
      | some ns => .ok (.int ns.sum) cs
      | none => .bad
    | none => .bad
  | _ => .bad
theorem ok_sum {K : PySem.W.Frag} {mg : Str → Option Value} : OkC K mg mSum (rSum K) := by
  intro E ps cs vs U H μ Q r hx h
  unfold mSum at h
  split at h
  · cases hx with
    | cons h1 h2 =>
      cases h2
      split at h
      · rename_i xs e
        split at h
        · rename_i ns en
          obtain ⟨a, ws, rfl, s, q⟩ := asL_ok r h1 e
          rw [intsOf_eq en] at q
          rw [q.ints] at s
          exact ⟨a, ns, rfl, s, out_val r (.int _) h⟩
        · exact h.elim
      · exact h.elim
  · exact h.elim
def mTuple : FN := fun vs cs => match vs with
  | [.tup xs] => .ok (.tup xs) cs
  | [x] => match asL cs x with
    | some xs => .ok (.tup xs) cs
    | none => .bad
  | _ => .bad
theorem ok_tuple {K : PySem.W.Frag} {mg : Str → Option Value} : OkC K mg mTuple (fun xs H Q => ∃ p ys, xs = [.ref p] ∧ ((SqL K H p ys ∧ ∀ l, H l = none → Q (.ref l) (upd H l (.tup ys))) ∨ (SqT K H p ys ∧ Q (.ref p) H))) := by
  intro E ps cs vs U H μ Q r hx h
  unfold mTuple at h
  split at h
  · cases hx with
    | cons h1 h2 =>
      cases h2
      obtain ⟨a, ws, rfl, s, q⟩ := asT_ok r h1 rfl
      exact ⟨a, ws, rfl, .inr ⟨s, out_val r h1 h⟩⟩
  · cases hx with
    | cons h1 h2 =>
      cases h2
      split at h
      · rename_i xs e
        obtain ⟨a, ws, rfl, s, q⟩ := asL_ok r h1 e
        exact ⟨a, ws, rfl, .inl ⟨s, out_tup r q h⟩⟩
      · exact h.elim
  · exact h.elim
/-- list(x): a new list, frozen | a new cell -/
def seqOf (cs : Cells) : Pv → Option (List Pv)
  | .tup xs => some xs
  | x => asL cs x
theorem seqOf_ok {K : PySem.W.Frag} {mg : Str → Option Value} {U H : Hp} {μ : List Addr} {cs : Cells} {p : Pv} {v : V} {xs : List Pv} (r : Rel0 K mg cs μ U H) (h : RepV K mg U μ p v) (e : seqOf cs p = some xs) : ∃ a ws, v = .ref a ∧ (SqL K H a ws ∨ SqT K H a ws) ∧ RepVs K mg U μ xs ws := by
  unfold seqOf at e
  split at e
  · cases e
    obtain ⟨a, ws, rfl, s, q⟩ := asT_ok r h rfl
    exact ⟨a, ws, rfl, .inr s, q⟩
  · obtain ⟨a, ws, rfl, s, q⟩ := asL_ok r h e
    exact ⟨a, ws, rfl, .inl s, q⟩
def mList : FN := fun vs cs => match vs with
  | [x] => match seqOf cs x with
    | some xs => .ok (.lst xs) cs
    | none => .bad
  | _ => .bad
def rListOf (K : PySem.W.Frag) : List V → Hp → VK → Prop := fun xs H Q => ∃ p ys, xs = [.ref p] ∧ (SqL K H p ys ∨ SqT K H p ys) ∧ ∀ l, H l = none → Q (.ref l) (upd H l (.lst ys))
theorem ok_list {K : PySem.W.Frag} {mg : Str → Option Value} : OkC K mg mList (rListOf K) := by
  intro E ps cs vs U H μ Q r hx h
  unfold mList at h
  split at h
  · cases hx with
    | cons h1 h2 =>
      cases h2
      split at h
      · rename_i xs e
        obtain ⟨a, ws, rfl, s, q⟩ := seqOf_ok r h1 e
        exact ⟨a, ws, rfl, s, out_lst r q h⟩
      · exact h.elim
  · exact h.elim
/-- isinstance of plain data, a built-in class -/
def pyTy (cs : Cells) : Pv → Option String
  | .non => some "NoneType" | .bl _ => some "bool" | .int _ => some "int" | .str _ => some "str" | .tup _ => some "tuple"
  | x => match asL cs x with
    | some _ => some "list"
    | none => none
def mIsB : FN := fun vs cs => match vs with
  | [x, .ty n] => match pyTy cs x with
    | some t => match kitB t n with
      | some b => .ok (.bl b) cs
      | none => .bad
    | none => .bad
  | _ => .bad
theorem tyX_L {K : PySem.W.Frag} {H : Hp} {a : Addr} {ws : List V} (s : SqL K H a ws) : TyX K H (.ref a) (.type "list") := by
  rcases s with (s | ⟨o, s⟩) | ⟨o, its, n, h1, h2, _⟩
  · exact .base (.lst s)
  · exact .base (.frz s)
  · exact .kList h1 h2
theorem tyX_T {K : PySem.W.Frag} {H : Hp} {a : Addr} {ws : List V} (s : SqT K H a ws) : TyX K H (.ref a) (.type "tuple") := by
  rcases s with (s | ⟨o, s⟩) | ⟨o, its, n, h1, h2, _⟩
  · exact .base (.tup s)
  · exact .fTuple s
  · exact .kTuple h1 h2
theorem pyTy_ok {K : PySem.W.Frag} {mg : Str → Option Value} {U H : Hp} {μ : List Addr} {cs : Cells} {p : Pv} {v : V} {t : String} (r : Rel0 K mg cs μ U H) (h : RepV K mg U μ p v) (e : pyTy cs p = some t) : TyX K H v (.type t) := by
  unfold pyTy at e
  split at e
  · cases h; cases e; exact .base .non
  · cases h; cases e; exact .base (.bl _)
  · cases h; cases e; exact .base (.int _)
  · cases h; cases e; exact .base (.str _)
  · cases e
    obtain ⟨a, ws, rfl, s, q⟩ := asT_ok r h rfl
    exact tyX_T s
  · split at e
    · rename_i xs ex
      cases e
      obtain ⟨a, ws, rfl, s, q⟩ := asL_ok r h ex
      exact tyX_L s
    · cases e
theorem ok_isB {K : PySem.W.Frag} {mg : Str → Option Value} : OkC K mg mIsB (rIsi K) := by
  intro E ps cs vs U H μ Q r hx h
  unfold mIsB at h
  split at h
  · cases hx with
    | cons h1 h2 =>
      cases h2 with
      | cons h2 h3 =>
        cases h3; cases h2
        split at h
        · rename_i t et
          split at h
          · rename_i b eb
            exact ⟨_, _, _, _, b, rfl, .ty _, pyTy_ok r h1 et, kit_ty eb, out_val r (.bl _) h⟩
          · exact h.elim
        · exact h.elim
  · exact h.elim
def sRet (f : FE) : FS := fun sl cs => (f sl cs).go sl fun v cs1 => .rt v cs1
def sRetN : FS := fun _ cs => .rt .non cs
def sExpr (f : FE) : FS := fun sl cs => (f sl cs).go sl fun _ cs1 => .nx sl cs1
def sPass : FS := fun sl cs => .nx sl cs
def sSeq (f g : FS) : FS := fun sl cs => (f sl cs).then g
def sIf (c : FT) (f g : FS) : FS := fun sl cs => (c sl cs).go sl fun b cs1 => if b = true then f sl cs1 else g sl cs1
def sAsg (i : Nat) (f : FE) : FS := fun sl cs => (f sl cs).go sl fun v cs1 => .nx (sl.set i (some v)) cs1
section
variable {X : Cx} {W : WE} {f : FE} {s t : FS} {c : FT} {e cc : Expr} {st : Stmt} {sts a b : List Stmt} {pos : Pos}
theorem s_ret (he : PE X e (rdE X.K X.mg W f)) : PS X (.Return (some e) pos) (rdS X.K X.mg W (sRet f)) := PS.le (ps_ret he) fun D σ H q => by
  obtain ⟨sl, cs, μ, U, r0, rs, q⟩ := q
  exact ⟨sl, cs, μ, U, r0, rs, OutS.seq q rs fun x cs1 w U1 H1 μ1 _ g1 r1 p1 h1 => h1 _ _ _ _ Gr.refl r1 p1⟩
theorem s_expr (he : PE X e (rdE X.K X.mg W f)) (hs : swapsWith e none pos.line X.env = pure false := by rfl) : PS X (.Expr e pos) (rdS X.K X.mg W (sExpr f)) := PS.le (ps_expr he hs) fun D σ H q => by
  obtain ⟨sl, cs, μ, U, r0, rs, q⟩ := q
  exact ⟨sl, cs, μ, U, r0, rs, OutS.seq q rs fun x cs1 w U1 H1 μ1 _ g1 r1 p1 h1 => h1 _ _ _ _ Gr.refl r1 (rs.mono g1)⟩
theorem ss_nil : PSs X [] (rdS X.K X.mg W sPass) := PSs.le pss_nil fun D σ H q => by
  obtain ⟨sl, cs, μ, U, r0, rs, q⟩ := q
  exact q _ _ _ _ Gr.refl r0 rs
theorem ss_one (h : PS X st (rdS X.K X.mg W s)) : PSs X [st] (rdS X.K X.mg W s) := pss_one h
theorem ss_cons (h1 : PS X st (rdS X.K X.mg W s)) (h2 : PSs X sts (rdS X.K X.mg W t)) : PSs X (st :: sts) (rdS X.K X.mg W (sSeq s t)) := PSs.le (pss_cons h1 h2) fun D σ H q => by
  obtain ⟨sl, cs, μ, U, r0, rs, q⟩ := q
  exact ⟨sl, cs, μ, U, r0, rs, OutS.then q (fun _ _ z => z) (fun _ _ z => z) (fun _ _ z => z) fun sl1 cs1 σ1 U1 H1 μ1 _ g1 r1 rs1 h1 => ⟨sl1, cs1, μ1, U1, r1, rs1, h1⟩⟩
theorem s_if (hc : PT X cc (rdT X.K X.mg W c)) (ha : PSs X a (rdS X.K X.mg W s)) (hb : PSs X b (rdS X.K X.mg W t)) : PS X (.If cc a b pos) (rdS X.K X.mg W (sIf c s t)) := PS.le (ps_if hc ha hb) fun D σ H q => by
  obtain ⟨sl, cs, μ, U, r0, rs, q⟩ := q
  refine ⟨sl, cs, μ, U, r0, rs, OutS.seq q rs fun x cs1 w U1 H1 μ1 _ g1 r1 p1 h1 => ?_⟩
  subst p1
  cases x with
  | true => rw [if_pos rfl] at h1 ⊢; exact ⟨sl, cs1, μ1, U1, r1, rs.mono g1, h1⟩
  | false => rw [if_neg Bool.false_ne_true] at h1 ⊢; exact ⟨sl, cs1, μ1, U1, r1, rs.mono g1, h1⟩
theorem rd_asg {i : Nat} (D : Ends) (σ : L2.St) (H : Hp) (q : rdS X.K X.mg W (sAsg i f) D σ H) : tAsg (rdE X.K X.mg W f) (gName i) D σ H := by
  obtain ⟨sl, cs, μ, U, r0, rs, q⟩ := q
  exact ⟨sl, cs, μ, U, r0, rs, OutS.seq q rs fun x cs1 w U1 H1 μ1 _ g1 r1 p1 h1 => h1 _ _ _ _ Gr.refl r1 ((rs.mono g1).set p1 i)⟩
theorem s_asg {i : Nat} {x : Str} {pos' : Pos} (hN : X.N.Nodup) (he : PE X e (rdE X.K X.mg W f)) (hi : X.N[i]? = some x := by rfl) (hx : Loc X.env.scope x := by first | exact Or.inl rfl | exact Or.inr rfl) (hs : swapsWith e (some (.Name x pos')) pos.line X.env = pure false := by rfl) (hf : X.fn x = true ∨ X.env.scope.names.lookup x = some .local := by first | exact .inl rfl | exact .inr rfl | assumption) :
    PS X (.Assign [.Name x pos'] e pos) (rdS X.K X.mg W (sAsg i f)) := PS.le (ps_set hN hi hx he hs hf) rd_asg
end
def putIx (o i v : Pv) (cs : Cells) : Option Cells := match o, i with
  | .ref k, .int j => match cs[k]? with
    | some (.lst xs) => match ixN xs.length j with
      | some m => some (cs.set k (.lst (xs.set m v)))
      | none => none
    | _ => none
  | _, _ => none
def sPutIx (o i f : FE) : FS := fun sl cs => (f sl cs).go sl fun v cs1 => (o sl cs1).go sl fun ov cs2 => (i sl cs2).go sl fun iv cs3 => match putIx ov iv v cs3 with
  | some cs4 => .nx sl cs4
  | none => .bad
def sAug (i : Nat) (o : F2) (f : FE) : FS := fun sl cs => match sl[i]? with
  | some (some x) => (f sl cs).go sl fun y cs1 => (o x y cs1).go sl fun z cs2 => .nx (sl.set i (some z)) cs2
  | _ => .bad
section
variable {X : Cx} {W : WE} {f fo fi : FE} {e o i : Expr} {pos tp : Pos}
theorem s_putIx (he : PE X e (rdE X.K X.mg W f)) (ho : PE X o (rdE X.K X.mg W fo)) (hi : PE X i (rdE X.K X.mg W fi))
    (ha : ∀ v, assign (.Subscript o i tp) X.env v = (do
      let ov ← holding [v] (eval o X.env)
      let iv ← holding [v, ov] (eval i X.env)
      standAt tp
      holding [v, ov, iv] (setItem ov iv v)
      release [v, ov, iv] []) := by intro _; rfl)
    (hs : swapsWithSole [.Subscript o i tp] e pos.line X.env = pure false := by rfl) (hw : swappedStores [.Subscript o i tp] e X.env = pure none := by rfl)
    (h1 : (assignEach [.Subscript o i tp] X.env).map (·.2) = [assign (.Subscript o i tp) X.env] := by rfl) :
    PS X (.Assign [.Subscript o i tp] e pos) (rdS X.K X.mg W (sPutIx fo fi f)) := PS.le (ps_asg he (pg_sub ho hi set_list ha) hs hw h1) fun D σ H q => by
  obtain ⟨sl, cs, μ, U, r0, rs, q⟩ := q
  refine ⟨sl, cs, μ, U, r0, rs, OutS.seq q rs fun x cs1 w U1 H1 μ1 _ g1 r1 p1 h1 => ?_⟩
  refine ⟨sl, cs1, μ1, U1, r1, rs.mono g1, OutS.seq h1 (rs.mono g1) fun ov cs2 wo U2 H2 μ2 _ g2 r2 p2 h2 => ?_⟩
  refine ⟨sl, cs2, μ2, U2, r2, (rs.mono g1).mono g2, OutS.seq h2 ((rs.mono g1).mono g2) fun iv cs3 wi U3 H3 μ3 _ g3 r3 p3 h3 => ?_⟩
  split at h3
  · rename_i cs4 e4
    unfold putIx at e4
    split at e4
    · split at e4
      · rename_i xs hk
        split at e4
        · rename_i m hm
          cases e4
          cases p3
          have p2' := p2.mono g3.vv g3.mm
          cases p2' with
          | ref hμ =>
            obtain ⟨ws, q1, q2⟩ := r3.cel _ _ _ hk hμ
            refine ⟨_, ws, _, m, rfl, rfl, q1, by rw [← q2.length]; exact hm, ?_⟩
            have px := (p1.mono g2.vv g2.mm).mono g3.vv g3.mm
            obtain ⟨r4, g4⟩ := r3.put (c' := .lst (xs.set m x)) (o := .lst (ws.set m w)) hk (fun z => nomatch z) hμ ⟨_, rfl, RepVs.set px m q2⟩
            exact h3 _ _ _ _ g4 r4 (((rs.mono g1).mono g2).mono g3 |>.mono g4)
        · cases e4
      · cases e4
    · cases e4
  · exact h3.elim
end
def oAddI : F2 := fun x y cs => match x, y with
  | .int i, .int j => .ok (.int (i + j)) cs
  | _, _ => .bad
end AL
set_option Elab.async false
set_option linter.all false
set_option autoImplicit false
set_option maxRecDepth 100000
set_option maxHeartbeats 4000000
namespace AL
open PySem PySem.Spec PyProof.Rows L2
abbrev FG := Pv → Sl → Cells → Option Sl
abbrev FGs := List Pv → Sl → Cells → Option Sl
def gN (i : Nat) : FG := fun v sl _ => some (sl.set i (some v))
def gsNil : FGs := fun vs sl _ => match vs with
  | [] => some sl
  | _ => none
def gsCons (g : FG) (r : FGs) : FGs := fun vs sl cs => match vs with
  | v :: vs => (g v sl cs).bind fun sl' => r vs sl' cs
  | [] => none
def gT (n : Nat) (r : FGs) : FG := fun v sl cs => match asT v with
  | some xs => if xs.length = n then r xs sl cs else none
  | none => none
theorem wipe_get (σ : L2.St) (i : Nat) : ∀ vs : List Nat, (wipe σ vs)[i]? = if i ∈ vs ∧ i < σ.length then some none else σ[i]?
  | [] => by simp [wipe]
  | v :: vs => by
    show ((wipe σ vs).set v none)[i]? = _
    by_cases hv : v = i
    · subst hv
      by_cases hl : v < σ.length
      · rw [List.getElem?_set_self (by rw [wipe_length]; exact hl), if_pos ⟨List.mem_cons_self, hl⟩]
      · rw [if_neg (fun z => hl z.2), List.getElem?_eq_none (by rw [List.length_set, wipe_length]; omega), List.getElem?_eq_none (by omega)]
    · rw [List.getElem?_set_ne hv, wipe_get σ i vs]
      by_cases hm : i ∈ vs ∧ i < σ.length
      · rw [if_pos hm, if_pos ⟨List.mem_cons_of_mem _ hm.1, hm.2⟩]
      · rw [if_neg hm, if_neg]
        intro z
        rcases List.mem_cons.mp z.1 with e | e
        · exact hv e.symm
        · exact hm ⟨e, z.2⟩
theorem wipe_set {σ : L2.St} {i : Nat} {x : Option V} {vs : List Nat} (h : i ∈ vs) : wipe (σ.set i x) vs = wipe σ vs := by
  refine List.ext_getElem? fun j => ?_
  rw [wipe_get, wipe_get, List.length_set]
  by_cases hj : j ∈ vs ∧ j < σ.length
  · rw [if_pos hj, if_pos hj]
  · rw [if_neg hj, if_neg hj]
    by_cases e : i = j
    · subst e
      have hl : ¬ i < σ.length := fun z => hj ⟨h, z⟩
      rw [List.getElem?_eq_none (by rw [List.length_set]; omega), List.getElem?_eq_none (by omega)]
    · rw [List.getElem?_set_ne e]
theorem wipe_wipe (σ : L2.St) (vs : List Nat) : wipe (wipe σ vs) vs = wipe σ vs := by
  refine List.ext_getElem? fun j => ?_
  rw [wipe_get, wipe_get, wipe_length]
  by_cases hj : j ∈ vs ∧ j < σ.length
  · rw [if_pos hj, if_pos hj]
  · rw [if_neg hj]
def wipeS (sl : Sl) : List Nat → Sl
  | [] => sl
  | v :: vs => (wipeS sl vs).set v none
theorem RelS.wipe {K : PySem.W.Frag} {mg : Str → Option Value} {U : Hp} {μ : List Addr} {sl : Sl} {σ : L2.St} (r : RelS K mg none U μ sl σ) : ∀ vs : List Nat, RelS K mg none U μ (wipeS sl vs) (L2.wipe σ vs)
  | [] => r
  | v :: vs => (RelS.wipe r vs).setNone v
section
variable (K : PySem.W.Frag) (mg : Str → Option Value)
def rdG (xa : Option Xa) (vs : List Nat) (g : FG) : TG := fun v σ H Q => ∃ p sl cs μ U sl', Rel0 K mg cs μ U H ∧ RelS K mg xa U μ sl σ ∧ RepV K mg U μ p v ∧ g p sl cs = some sl' ∧ ∀ σ', RelS K mg xa U μ sl' σ' → wipe σ' vs = wipe σ vs → Q σ' H
def rdGs (xa : Option Xa) (vs : List Nat) (g : FGs) : TGs := fun ws σ H Q => ∃ ps sl cs μ U sl', Rel0 K mg cs μ U H ∧ RelS K mg xa U μ sl σ ∧ RepVs K mg U μ ps ws ∧ g ps sl cs = some sl' ∧ ∀ σ', RelS K mg xa U μ sl' σ' → wipe σ' vs = wipe σ vs → Q σ' H
end
theorem PG.le {X : Cx} {e : Expr} {t t' : TG} (h : PG X e t) (l : ∀ v σ H Q, t' v σ H Q → t v σ H Q) : PG X e t' := ⟨fun pins s σ H v u Q I r q => h.run pins s σ H v u Q I r (l v σ H Q q)⟩
theorem PGs.le {X : Cx} {e : List Expr} {t t' : TGs} (h : PGs X e t) (l : ∀ v σ H Q, t' v σ H Q → t v σ H Q) : PGs X e t' := ⟨fun pins s σ H v u Q I r q => h.run pins s σ H v u Q I r (l v σ H Q q)⟩
section
variable {X : Cx} {xa : Option Xa} {vs : List Nat} {g : FG} {gs : FGs} {e : Expr} {es : List Expr} {pos : Pos}
theorem g_name {i : Nat} {x : Str} (hN : X.N.Nodup) (hv : i ∈ vs := by decide) (hi : X.N[i]? = some x := by rfl) (hx : Loc X.env.scope x := by first | exact Or.inl rfl | exact Or.inr rfl) (hf : X.fn x = true ∨ X.env.scope.names.lookup x = some .local := by first | exact .inl rfl | exact .inr rfl | assumption) : PG X (.Name x pos) (rdG X.K X.mg xa vs (gN i)) :=
  PG.le (pg_name hN hi hx hf) fun v σ H Q q => by
    obtain ⟨p, sl, cs, μ, U, sl', r0, rs, rp, e, q⟩ := q
    cases e
    exact q _ (rs.set rp i) (wipe_set hv)
theorem gs_nil : PGs X [] (rdGs X.K X.mg xa vs gsNil) := PGs.le pgs_nil fun v σ H Q q => by
  obtain ⟨p, sl, cs, μ, U, sl', r0, rs, rp, e, q⟩ := q
  unfold gsNil at e
  split at e
  · cases e; cases rp
    exact ⟨rfl, q _ rs rfl⟩
  · cases e
theorem gs_cons (h1 : PG X e (rdG X.K X.mg xa vs g)) (h2 : PGs X es (rdGs X.K X.mg xa vs gs)) (hs : (assignEach (e :: es) X.env).map (·.2) = assign e X.env :: (assignEach es X.env).map (·.2) := by rfl) : PGs X (e :: es) (rdGs X.K X.mg xa vs (gsCons g gs)) :=
  PGs.le (pgs_cons h1 h2 hs) fun v σ H Q q => by
    obtain ⟨p, sl, cs, μ, U, sl', r0, rs, rp, e, q⟩ := q
    unfold gsCons at e
    split at e
    · obtain ⟨sl1, e1, e2⟩ := Option.bind_eq_some_iff.mp e
      cases rp with
      | cons r1 r2 => exact ⟨_, _, rfl, _, sl, cs, μ, U, sl1, r0, rs, r1, e1, fun σ1 rs1 w1 => ⟨_, sl1, cs, μ, U, sl', r0, rs1, r2, e2, fun σ2 rs2 w2 => q σ2 rs2 (w2.trans w1)⟩⟩
    · cases e
theorem g_tup {k : Nat} {n : Nat} (hc : X.calm = true) (h : PGs X es (rdGs X.K X.mg xa vs gs)) (hn : (assignEach es X.env).length = n := by rfl) (hst : (assignEach es X.env).findIdx? (·.1) = none := by rfl) : PG X (.Tuple es k pos) (rdG X.K X.mg xa vs (gT n gs)) :=
  PG.le (pg_tup hc h hn hst) fun v σ H Q q => by
    obtain ⟨p, sl, cs, μ, U, sl', r0, rs, rp, e, q⟩ := q
    unfold gT at e
    split at e
    · rename_i xs ex
      split at e
      · rename_i el
        obtain ⟨a, ws, rfl, s, rq⟩ := asT_ok r0 rp ex
        exact ⟨a, ws, rfl, s, by rw [← rq.length]; exact el, xs, sl, cs, μ, U, sl', r0, rs, rq, e, q⟩
      · cases e
    · cases e
end
/-- target = e, a target of several names -/
def sAsgG (g : FG) (f : FE) : FS := fun sl cs => (f sl cs).go sl fun v cs1 => match g v sl cs1 with
  | some sl' => .nx sl' cs1
  | none => .bad
section
variable {X : Cx} {W : WE} {vs : List Nat} {g : FG} {f : FE} {e tg : Expr} {pos : Pos}
theorem s_asgG (he : PE X e (rdE X.K X.mg W f)) (hg : PG X tg (rdG X.K X.mg W.x vs g)) (hs : swapsWithSole [tg] e pos.line X.env = pure false := by rfl) (hw : swappedStores [tg] e X.env = pure none := by rfl)
    (h1 : (assignEach [tg] X.env).map (·.2) = [assign tg X.env] := by rfl) : PS X (.Assign [tg] e pos) (rdS X.K X.mg W (sAsgG g f)) := PS.le (ps_asg he hg hs hw h1) fun D σ H q => by
  obtain ⟨sl, cs, μ, U, r0, rs, q⟩ := q
  refine ⟨sl, cs, μ, U, r0, rs, OutS.seq q rs fun x cs1 w U1 H1 μ1 _ g1 r1 p1 h1 => ?_⟩
  split at h1
  · rename_i sl' e'
    exact ⟨x, sl, cs1, μ1, U1, sl', r1, rs.mono g1, p1, e', fun σ' rs' _ => h1 _ _ _ _ Gr.refl r1 rs'⟩
  · exact h1.elim
end
inductive Src where
  | fz (ps : List Pv) | lv (it : Nat → Cells → Option (Option Pv))
def Src.it : Src → Nat → Cells → Option (Option Pv)
  | .fz ps, i, _ => if i ≤ ps.length then some ps[i]? else none
  | .lv it, i, cs => it i cs
abbrev FI := Sl → Cells → Res Src
def ItOk (K : PySem.W.Frag) (mg : Str → Option Value) (it : Nat → Cells → Option (Option Pv)) (J : It) (U0 : Hp) (μ0 : List Addr) : Prop :=
  ∀ U H μ cs i, Ex U0 U → μ0 <+: μ → Rel0 K mg cs μ U H → match it i cs with
    | some (some p) => J.go i H ∧ ∀ x H', J.yld i H x H' → ∃ U', Gr U H μ U' H' μ ∧ Rel0 K mg cs μ U' H' ∧ RepV K mg U' μ p x
    | some none => J.stop i H
    | none => True
def rdI (K : PySem.W.Frag) (mg : Str → Option Value) (W : WE) (f : FI) : TI := fun σ H R => ∃ sl cs μ U, Rel0 K mg cs μ U H ∧ RelS K mg W.x U μ sl σ ∧ Out K mg (fun U μ s J => ItOk K mg s.it J U μ) (fun c d H => W.w c d σ H) U H μ (f sl cs) R
theorem PI.le {X : Cx} {tg e : Expr} {t t' : TI} (h : PI X tg e t) (l : ∀ σ H R, t' σ H R → t σ H R) : PI X tg e t' := ⟨fun pins s σ H R I q => h.run pins s σ H R I (l σ H R q)⟩
theorem PI.or {X : Cx} {tg e : Expr} {t t' : TI} (h : PI X tg e t) (h' : PI X tg e t') : PI X tg e (fun σ H R => t σ H R ∨ t' σ H R) := ⟨fun pins s σ H R I q => q.elim (h.run pins s σ H R I) (h'.run pins s σ H R I)⟩
/-- a list, a tuple -/
def cellIt (k : Nat) : Nat → Cells → Option (Option Pv) := fun i cs => match cs[k]? with
  | some (.lst xs) => some xs[i]?
  | _ => none
def srcOf (cs : Cells) : Pv → Option Src
  | .tup xs => some (.fz xs)
  | .lst xs => some (.fz xs)
  | .ref k => match cs[k]? with
    | some (.lst _) => some (.lv (cellIt k))
    | _ => none
  | _ => none
def iSeq (f : FE) : FI := fun sl cs => (f sl cs).bind fun v cs1 => match srcOf cs1 v with
  | some s => .ok s cs1
  | none => .bad
def rngOk (j : Int) : Bool := Nat.ble j.natAbs 16777216
theorem rngOk.ok {j : Int} (h : rngOk j = true) : -(2 ^ 62) ≤ j ∧ j < 2 ^ 62 := by
  have h1 := Nat.le_of_ble_eq_true h
  omega
theorem rngOk.of {j : Int} (h : 0 ≤ j) (h2 : j ≤ 16777216) : rngOk j = true := Nat.ble_eq_true_of_le (by omega)
def iRange1 (f : FE) : FI := fun sl cs => (f sl cs).bind fun v cs1 => match v with
  | .int j => guard_ (rngOk j) (.ok (.fz ((List.range j.toNat).map fun (k : Nat) => .int (k : Int))) cs1)
  | _ => .bad
section
variable {K : PySem.W.Frag} {mg : Str → Option Value}
theorem it_list {U0 : Hp} {μ0 : List Addr} {a : Addr} {ps : List Pv} {ws : List V} (s : SqL K U0 a ws) (q : RepVs K mg U0 μ0 ps ws) : ItOk K mg (Src.fz ps).it (Itl K a) U0 μ0 := by
  intro U H μ cs i e m r
  show match (if i ≤ ps.length then some ps[i]? else none) with | some (some p) => _ | some none => _ | none => _
  by_cases hle : i ≤ ps.length
  case neg => rw [if_neg hle]; trivial
  rw [if_pos hle]
  have sH := r.vh.l (e.l s)
  cases hp : ps[i]? with
  | some p =>
    obtain ⟨v, h1, h2⟩ := q.at hp
    refine ⟨⟨ws, v, sH, h1⟩, fun x H' y => ?_⟩
    obtain ⟨rfl, y⟩ := y
    have := y ws sH
    rw [h1] at this; cases this
    exact ⟨U, Gr.refl, r, h2.mono e m⟩
  | none => exact ⟨ws, sH, by rw [← q.length]; exact List.getElem?_eq_none_iff.mp hp⟩
theorem it_tup {U0 : Hp} {μ0 : List Addr} {a : Addr} {ps : List Pv} {ws : List V} (s : SqT K U0 a ws) (q : RepVs K mg U0 μ0 ps ws) : ItOk K mg (Src.fz ps).it (Itt K a) U0 μ0 := by
  intro U H μ cs i e m r
  show match (if i ≤ ps.length then some ps[i]? else none) with | some (some p) => _ | some none => _ | none => _
  by_cases hle : i ≤ ps.length
  case neg => rw [if_neg hle]; trivial
  rw [if_pos hle]
  have sH := r.vh.t (e.t s)
  cases hp : ps[i]? with
  | some p =>
    obtain ⟨v, h1, h2⟩ := q.at hp
    refine ⟨⟨ws, v, sH, h1⟩, fun x H' y => ?_⟩
    obtain ⟨rfl, y⟩ := y
    have := y ws sH
    rw [h1] at this; cases this
    exact ⟨U, Gr.refl, r, h2.mono e m⟩
  | none => exact ⟨ws, sH, by rw [← q.length]; exact List.getElem?_eq_none_iff.mp hp⟩
theorem it_cell {U0 : Hp} {μ0 : List Addr} {a : Addr} {k : Nat} (h : μ0[k]? = some a) : ItOk K mg (Src.lv (cellIt k)).it (Itl K a) U0 μ0 := by
  intro U H μ cs i e m r
  show match cellIt k i cs with | some (some p) => _ | some none => _ | none => _
  unfold cellIt
  split
  · rename_i p hp
    split at hp
    · rename_i xs hk
      obtain ⟨ws, h1, q⟩ := r.cel k _ a hk (pre_get m h)
      obtain ⟨v, h2, h3⟩ := q.at (Option.some.inj hp)
      refine ⟨⟨ws, v, .of h1, h2⟩, fun x H' y => ?_⟩
      obtain ⟨rfl, y⟩ := y
      have := y ws (.of h1)
      rw [h2] at this; cases this
      exact ⟨U, Gr.refl, r, h3⟩
    · cases hp
  · rename_i hp
    split at hp
    · rename_i xs hk
      obtain ⟨ws, h1, q⟩ := r.cel k _ a hk (pre_get m h)
      exact ⟨ws, .of h1, by rw [← q.length]; exact List.getElem?_eq_none_iff.mp (Option.some.inj hp)⟩
    · cases hp
  · trivial
theorem it_range {U0 : Hp} {μ0 : List Addr} {lo : Int} {n : Nat} : ItOk K mg (Src.fz ((List.range n).map fun (k : Nat) => .int (lo + (k : Int)))).it (Itr lo n) U0 μ0 := by
  intro U H μ cs i e m r
  show match (if i ≤ ((List.range n).map fun (k : Nat) => Pv.int (lo + (k : Int))).length then some ((List.range n).map fun (k : Nat) => Pv.int (lo + (k : Int)))[i]? else none) with | some (some p) => _ | some none => _ | none => _
  by_cases hle : i ≤ ((List.range n).map fun (k : Nat) => Pv.int (lo + (k : Int))).length
  case neg => rw [if_neg hle]; trivial
  rw [if_pos hle]
  by_cases hi : i < n
  · rw [List.getElem?_map, List.getElem?_range hi]
    refine ⟨hi, fun x H' y => ?_⟩
    obtain ⟨rfl, rfl⟩ := y
    exact ⟨U, Gr.refl, r, .int _⟩
  · rw [List.getElem?_eq_none (by rw [List.length_map, List.length_range]; omega)]
    exact Nat.not_lt.mp hi
theorem it_range0 {U0 : Hp} {μ0 : List Addr} (n : Nat) : ItOk K mg (Src.fz ((List.range n).map fun (k : Nat) => .int (k : Int))).it (Itr 0 n) U0 μ0 := by
  have := it_range (K := K) (mg := mg) (U0 := U0) (μ0 := μ0) (lo := 0) (n := n)
  simp only [Int.zero_add] at this
  exact this
end
section
variable {X : Cx} {W : WE} {f g : FE} {e e2 tg : Expr} {p pos : Pos}
theorem i_seq (he : PE X e (rdE X.K X.mg W f)) : PI X tg e (rdI X.K X.mg W (iSeq f)) := PI.le (PI.or (pi_list he) (pi_tup he)) fun σ H R q => by
  obtain ⟨sl, cs, μ, U, r0, rs, q⟩ := q
  unfold iSeq at q
  cases hf : f sl cs with
  | bad => rw [hf] at q; exact q.elim
  | exn c fs cs1 =>
    rw [hf] at q
    refine .inl ⟨sl, cs, μ, U, r0, rs, ?_⟩
    rw [hf]
    exact q
  | ok v cs1 =>
    rw [hf] at q
    have q : Out X.K X.mg (fun U μ (s : Src) J => ItOk X.K X.mg s.it J U μ) (fun c d H => W.w c d σ H) U H μ (match srcOf cs1 v with | some s => .ok s cs1 | none => .bad) R := q
    split at q
    · rename_i s es
      unfold srcOf at es
      split at es
      · cases es
        refine .inr ⟨sl, cs, μ, U, r0, rs, ?_⟩
        rw [hf]
        intro w U1 H1 μ1 g1 r1 p1
        cases p1 with
        | tup s rp => exact ⟨_, rfl, ⟨_, .of (r1.vh _ _ s)⟩, q _ _ _ _ g1 r1 (it_tup (.of s) rp)⟩
      · cases es
        refine .inl ⟨sl, cs, μ, U, r0, rs, ?_⟩
        rw [hf]
        intro w U1 H1 μ1 g1 r1 p1
        cases p1 with
        | lst s rp => exact ⟨_, rfl, ⟨_, r1.vh.l s⟩, q _ _ _ _ g1 r1 (it_list s rp)⟩
      · split at es
        · rename_i k xs hk
          cases es
          refine .inl ⟨sl, cs, μ, U, r0, rs, ?_⟩
          rw [hf]
          intro w U1 H1 μ1 g1 r1 p1
          cases p1 with
          | ref hm =>
            obtain ⟨ws, h1, _⟩ := r1.cel _ _ _ hk hm
            exact ⟨_, rfl, ⟨_, .of h1⟩, q _ _ _ _ g1 r1 (it_cell hm)⟩
        · cases es
      · cases es
    · exact q.elim
theorem i_range1 (hm : X.mg "range" = none) (ha : PE X e (rdE X.K X.mg W f)) (hg : Gl X "range" := by rfl) (hs : starEach [e] X.env = [(false, eval e X.env)] := by rfl) (hs1 : starEach [e] X.env = (false, eval e X.env) :: starEach [] X.env := by rfl) : PI X tg (.Call (.Name "range" p) [e] [] pos) (rdI X.K X.mg W (iRange1 f)) :=
  PI.le (pi_range1 hg hm (a_cons ha a_nil hs1) hs) fun σ H R q => by
    obtain ⟨sl, cs, μ, U, r0, rs, q⟩ := q
    refine ⟨sl, cs, μ, U, r0, rs, ?_⟩
    unfold iRange1 at q
    show Out _ _ _ _ _ _ _ ((f sl cs).bind fun v cs1 => (Res.ok [] cs1).bind fun vs cs2 => .ok (v :: vs) cs2) _
    cases hf : f sl cs with
    | bad => rw [hf] at q; exact q.elim
    | exn c fs cs1 => rw [hf] at q; exact q
    | ok v cs1 =>
      rw [hf] at q
      intro w U1 H1 μ1 g1 r1 p1
      have q := Out.later g1 q
      simp only [Res.bind_ok] at q
      cases p1 with
      | cons h1 h2 =>
        cases h2
        split at q
        · cases h1
          obtain ⟨hz, q⟩ := out_guard q
          have hz := rngOk.ok hz
          refine ⟨_, rfl, hz.1, hz.2, q _ _ _ _ Gr.refl r1 (it_range0 _)⟩
        · exact q.elim
end
def RS.turn : RS → (Sl → Cells → RS) → RS
  | .nx sl cs, k => k sl cs
  | .ct sl cs, k => k sl cs
  | .bk sl cs, _ => .nx sl cs
  | .rt v cs, _ => .rt v cs
  | .exn c fs sl cs, _ => .exn c fs sl cs
  | .bad, _ => .bad
@[simp] theorem RS.turn_nx (sl : Sl) (cs : Cells) (k : Sl → Cells → RS) : (RS.nx sl cs).turn k = k sl cs := rfl
@[simp] theorem RS.turn_ct (sl : Sl) (cs : Cells) (k : Sl → Cells → RS) : (RS.ct sl cs).turn k = k sl cs := rfl
@[simp] theorem RS.turn_bk (sl : Sl) (cs : Cells) (k : Sl → Cells → RS) : (RS.bk sl cs).turn k = .nx sl cs := rfl
@[simp] theorem RS.turn_rt (v : Pv) (cs : Cells) (k : Sl → Cells → RS) : (RS.rt v cs).turn k = .rt v cs := rfl
@[simp] theorem RS.turn_exn (c : Str) (fs : List (Str × Pv)) (sl : Sl) (cs : Cells) (k : Sl → Cells → RS) : (RS.exn c fs sl cs).turn k = .exn c fs sl cs := rfl
@[simp] theorem RS.turn_bad (k : Sl → Cells → RS) : RS.bad.turn k = .bad := rfl
def gTurn (g : FG) (body : FS) (v : Pv) : FS := fun sl cs => match g v sl cs with
  | some sl' => body sl' cs
  | none => .bad
def forN (it : Nat → Cells → Option (Option Pv)) (body : Pv → FS) : Nat → Nat → Sl → Cells → RS
  | 0, _, _, _ => .bad
  | n + 1, i, sl, cs => match it i cs with
    | some (some v) => (body v sl cs).turn (forN it body n (i + 1))
    | some none => .nx sl cs
    | none => .bad
def forL (body : Pv → FS) : List Pv → Sl → Cells → RS
  | [], sl, cs => .nx sl cs
  | v :: vs, sl, cs => (body v sl cs).turn (forL body vs)
/-- more turns than any run has -/
def FU : Nat := 1099511627776
theorem forN_fz (body : Pv → FS) (ps : List Pv) : ∀ (n i : Nat) (sl : Sl) (cs : Cells), i ≤ ps.length → ps.length < i + n → forN (Src.fz ps).it body n i sl cs = forL body (ps.drop i) sl cs
  | 0, i, sl, cs, h0, h => by omega
  | n + 1, i, sl, cs, h0, h => by
    show (match (if i ≤ ps.length then some ps[i]? else none) with | some (some v) => (body v sl cs).turn (forN (Src.fz ps).it body n (i + 1)) | some none => RS.nx sl cs | none => .bad) = _
    rw [if_pos h0]
    by_cases hi : i < ps.length
    · rw [List.getElem?_eq_getElem hi, List.drop_eq_getElem_cons hi]
      show (body ps[i] sl cs).turn (forN (Src.fz ps).it body n (i + 1)) = (body ps[i] sl cs).turn (forL body (ps.drop (i + 1)))
      congr 1
      funext sl' cs'
      exact forN_fz body ps n (i + 1) sl' cs' (by omega) (by omega)
    · rw [List.getElem?_eq_none (by omega), List.drop_eq_nil_iff.mpr (by omega)]
      rfl
def forS (body : Pv → FS) (s : Src) : FS := match s with
  | .fz ps => forL body ps
  | .lv it => forN it body FU 0
theorem forS_N (body : Pv → FS) (s : Src) : ∃ n, forS body s = forN s.it body n 0 := by
  cases s with
  | fz ps => exact ⟨ps.length + 1, funext fun sl => funext fun cs => by rw [forN_fz body ps _ 0 sl cs (by omega) (by omega)]; rfl⟩
  | lv it => exact ⟨FU, rfl⟩
def sFor (g : FG) (src : FI) (body : FS) : FS := fun sl cs => (src sl cs).go sl fun s cs1 => forS (gTurn g body) s sl cs1
theorem OutS.turn {K : PySem.W.Frag} {mg : Str → Option Value} {U H : Hp} {μ : List Addr} {W : WE} {D : Ends} {N : L2.St → Hp → Prop} {r : RS} {k : Sl → Cells → RS} (h : OutS K mg W D U H μ (r.turn k))
    (c : ∀ sl1 cs1 σ1 U1 H1 μ1, Gr U H μ U1 H1 μ1 → Rel0 K mg cs1 μ1 U1 H1 → RelS K mg W.x U1 μ1 sl1 σ1 → OutS K mg W D U1 H1 μ1 (k sl1 cs1) → N σ1 H1) : OutS K mg W { D with nx := N, ct := N, bk := D.nx } U H μ r := by
  cases r with
  | nx a cs => exact fun σ' U' H' μ' g' r' q => c a cs σ' U' H' μ' g' r' q (OutS.later g' h)
  | ct a cs => exact fun σ' U' H' μ' g' r' q => c a cs σ' U' H' μ' g' r' q (OutS.later g' h)
  | bk a cs => exact h
  | rt a cs => exact h
  | exn c fs sl cs => exact h
  | bad => exact h
section
variable {X : Cx} {W : WE} {vs : List Nat} {g : FG} {src : FI} {body : FS} {c : FT} {tg iter cc : Expr} {sts : List Stmt} {pos : Pos}
theorem s_for (hp : PassesOwn (model X.prog X.w) X.A X.env X.xe) (hc : X.calm = true) (hi : PI X tg iter (rdI X.K X.mg W src)) (hg : PG X tg (rdG X.K X.mg W.x vs g)) (hb : PSs X sts (rdS X.K X.mg W body))
    (hs : ∀ x, foldedSetIterable iter X.env x = pure x := by intro _; rfl) : PS X (.For tg iter sts [] pos) (rdS X.K X.mg W (sFor g src body)) := PS.le (ps_for hp hc hi hg hb hs) fun D σ H q => by
  obtain ⟨sl, cs, μ, U, r0, rs, q⟩ := q
  refine ⟨sl, cs, μ, U, r0, rs, OutS.seq q rs fun s cs1 J U1 H1 μ1 _ g1 r1 hJ h1 => ?_⟩
  obtain ⟨n, en⟩ := forS_N (gTurn g body) s
  rw [en] at h1
  refine ⟨fun i m σ H => ∃ sl cs μ U, Ex U1 U ∧ μ1 <+: μ ∧ Rel0 X.K X.mg cs μ U H ∧ RelS X.K X.mg W.x U μ sl σ ∧ OutS X.K X.mg W D U H μ (forN s.it (gTurn g body) m i sl cs), ⟨n, sl, cs1, μ1, U1, Ex.refl _, List.prefix_refl _, r1, rs.mono g1, h1⟩, ?_⟩
  rintro i m σ2 H2 ⟨sl2, cs2, μ2, U2, ex, mm, r2, rs2, h2⟩
  cases m with
  | zero => exact h2.elim
  | succ m =>
    have hJ2 := hJ U2 H2 μ2 cs2 i ex mm r2
    have h2 : OutS X.K X.mg W D U2 H2 μ2 (match s.it i cs2 with | some (some v) => (gTurn g body v sl2 cs2).turn (forN s.it (gTurn g body) m (i + 1)) | some none => .nx sl2 cs2 | none => .bad) := h2
    cases hv : s.it i cs2 with
    | none => rw [hv] at h2; exact h2.elim
    | some o =>
      rw [hv] at h2 hJ2
      cases o with
      | none => exact .inl ⟨hJ2, h2 _ _ _ _ Gr.refl r2 rs2⟩
      | some v =>
        obtain ⟨go, yl⟩ := hJ2
        refine .inr ⟨go, fun σ H => ∃ sl cs μ U, Ex U1 U ∧ μ1 <+: μ ∧ Rel0 X.K X.mg cs μ U H ∧ RelS X.K X.mg W.x U μ sl σ ∧ OutS X.K X.mg W D U H μ (forN s.it (gTurn g body) m (i + 1) sl cs), fun σ' H' hN => ⟨m, Nat.lt_succ_self _, hN⟩, fun x H' y => ?_⟩
        obtain ⟨U3, g3, r3, p3⟩ := yl x H' y
        have h3 := OutS.later g3 h2
        have h3 : OutS X.K X.mg W D U3 H' μ2 ((match g v sl2 cs2 with | some sl' => body sl' cs2 | none => .bad).turn (forN s.it (gTurn g body) m (i + 1))) := h3
        split at h3
        · rename_i sl' e'
          refine ⟨v, sl2, cs2, μ2, U3, sl', r3, rs2.mono g3, p3, e', fun σ' rs' _ => ⟨sl', cs2, μ2, U3, r3, rs', OutS.turn h3 fun sl4 cs4 σ4 U4 H4 μ4 g4 r4 rs4 h4 => ?_⟩⟩
          exact ⟨sl4, cs4, μ4, U4, (ex.trans g3.vv).trans g4.vv, mm.trans g4.mm, r4, rs4, h4⟩
        · exact h3.elim
end
def whileN (c : FT) (body : FS) : Nat → Sl → Cells → RS
  | 0, _, _ => .bad
  | n + 1, sl, cs => (c sl cs).go sl fun b cs1 => if b = true then (body sl cs1).turn (whileN c body n) else .nx sl cs1
def sWhile (c : FT) (body : FS) : FS := whileN c body FU
section
variable {X : Cx} {W : WE} {c : FT} {body : FS} {cc : Expr} {sts : List Stmt} {pos : Pos}
theorem s_while (hp : PassesOwn (model X.prog X.w) X.A X.env X.xe) (hc : PT X cc (rdT X.K X.mg W c)) (hb : PSs X sts (rdS X.K X.mg W body)) : PS X (.While cc sts [] pos) (rdS X.K X.mg W (sWhile c body)) := PS.le (ps_while hp hc hb) fun D σ H q => by
  obtain ⟨sl, cs, μ, U, r0, rs, q⟩ := q
  refine ⟨fun m σ H => ∃ sl cs μ U, Rel0 X.K X.mg cs μ U H ∧ RelS X.K X.mg W.x U μ sl σ ∧ OutS X.K X.mg W D U H μ (whileN c body m sl cs), ⟨FU, sl, cs, μ, U, r0, rs, q⟩, ?_⟩
  rintro m σ2 H2 ⟨sl2, cs2, μ2, U2, r2, rs2, h2⟩
  cases m with
  | zero => exact h2.elim
  | succ m =>
    refine ⟨sl2, cs2, μ2, U2, r2, rs2, OutS.seq h2 rs2 fun b cs3 w U3 H3 μ3 _ g3 r3 p3 h3 => ?_⟩
    subst p3
    cases b with
    | false => rw [if_neg Bool.false_ne_true] at h3 ⊢; exact h3 _ _ _ _ Gr.refl r3 (rs2.mono g3)
    | true =>
      rw [if_pos rfl] at h3 ⊢
      refine ⟨fun σ H => ∃ sl cs μ U, Rel0 X.K X.mg cs μ U H ∧ RelS X.K X.mg W.x U μ sl σ ∧ OutS X.K X.mg W D U H μ (whileN c body m sl cs), fun σ' H' hN => ⟨m, Nat.lt_succ_self _, hN⟩, sl2, cs3, μ3, U3, r3, rs2.mono g3, OutS.turn h3 fun sl4 cs4 σ4 U4 H4 μ4 g4 r4 rs4 h4 => ⟨sl4, cs4, μ4, U4, r4, rs4, h4⟩⟩
end
end AL
set_option Elab.async false
set_option linter.all false
set_option autoImplicit false
set_option maxRecDepth 100000
set_option maxHeartbeats 4000000
namespace AL
open PySem PySem.Spec PyProof.Rows L2
/-- nothing is raised there -/
def noX {α : Type} : Res α → Res α
  | .ok a cs => .ok a cs
  | _ => .bad
@[simp] theorem noX_ok {α : Type} (a : α) (cs : Cells) : noX (.ok a cs) = .ok a cs := rfl
@[simp] theorem noX_bad {α : Type} : noX (.bad : Res α) = .bad := rfl
/-- one turn: nothing, or one more item -/
def lcTurn (g : FG) (c : FT) (e : FE) (sl : Sl) (v : Pv) (cs : Cells) : Res (Option Pv) := match g v sl cs with
  | some sl2 => (noX (c sl2 cs)).bind fun b cs1 => if b = true then (noX (e sl2 cs1)).bind fun y cs2 => .ok (some y) cs2 else .ok none cs1
  | none => .bad
def lcN (it : Nat → Cells → Option (Option Pv)) (turn : Pv → Cells → Res (Option Pv)) : Nat → Nat → List Pv → Cells → Res (List Pv)
  | 0, _, _, _ => .bad
  | n + 1, i, acc, cs => match it i cs with
    | some (some v) => (turn v cs).bind fun o cs1 => match o with
      | some y => guard_ (fits (acc.length + 1)) (lcN it turn n (i + 1) (acc ++ [y]) cs1)
      | none => lcN it turn n (i + 1) acc cs1
    | some none => .ok acc cs
    | none => .bad
def lcL (turn : Pv → Cells → Res (Option Pv)) : List Pv → Cells → Res (List Pv)
  | [], cs => .ok [] cs
  | v :: vs, cs => (turn v cs).bind fun o cs1 => (lcL turn vs cs1).bind fun ys cs2 => .ok (match o with | some y => y :: ys | none => ys) cs2
theorem Res.bind_assoc {α β γ : Type} (r : Res α) (k : α → Cells → Res β) (l : β → Cells → Res γ) : (r.bind k).bind l = r.bind fun a cs => (k a cs).bind l := by cases r <;> rfl
theorem Res.bind_id {α : Type} (r : Res α) : (r.bind fun a cs => .ok a cs) = r := by cases r <;> rfl
theorem lcN_fz (turn : Pv → Cells → Res (Option Pv)) (ps : List Pv) : ∀ (n i : Nat) (acc : List Pv) (cs : Cells), i ≤ ps.length → ps.length < i + n → acc.length + (ps.length - i) ≤ 16777216 →
    lcN (Src.fz ps).it turn n i acc cs = (lcL turn (ps.drop i) cs).bind fun ys cs1 => .ok (acc ++ ys) cs1
  | 0, i, acc, cs, h0, h, _ => by omega
  | n + 1, i, acc, cs, h0, h, hf => by
    show (match (if i ≤ ps.length then some ps[i]? else none) with
      | some (some v) => (turn v cs).bind fun o cs1 => match o with
        | some y => guard_ (fits (acc.length + 1)) (lcN (Src.fz ps).it turn n (i + 1) (acc ++ [y]) cs1)
        | none => lcN (Src.fz ps).it turn n (i + 1) acc cs1
      | some none => .ok acc cs
      | none => .bad) = _
    rw [if_pos h0]
    by_cases hi : i < ps.length
    · rw [List.getElem?_eq_getElem hi, List.drop_eq_getElem_cons hi]
      show (turn ps[i] cs).bind _ = ((turn ps[i] cs).bind _).bind _
      rw [Res.bind_assoc]
      congr 1
      funext o cs1
      rw [Res.bind_assoc]
      cases o with
      | some y =>
        show guard_ (fits (acc.length + 1)) _ = _
        rw [guard_of (show fits (acc.length + 1) = true from decide_eq_true (by omega))]
        rw [lcN_fz turn ps n (i + 1) (acc ++ [y]) cs1 (by omega) (by omega) (by rw [List.length_append, List.length_singleton]; omega)]
        congr 1
        funext ys cs2
        show Res.ok ((acc ++ [y]) ++ ys) cs2 = Res.ok (acc ++ (y :: ys)) cs2
        rw [List.append_assoc]
        rfl
      | none => exact lcN_fz turn ps n (i + 1) acc cs1 (by omega) (by omega) (by omega)
    · rw [List.getElem?_eq_none (by omega), List.drop_eq_nil_iff.mpr (by omega)]
      show Res.ok acc cs = Res.ok (acc ++ []) cs
      rw [List.append_nil]
def lcS (turn : Pv → Cells → Res (Option Pv)) (s : Src) (cs : Cells) : Res (List Pv) := match s with
  | .fz ps => guard_ (fits ps.length) (lcL turn ps cs)
  | .lv it => lcN it turn FU 0 [] cs
theorem lcS_N (turn : Pv → Cells → Res (Option Pv)) (s : Src) (cs : Cells) : lcS turn s cs = .bad ∨ ∃ n, lcS turn s cs = lcN s.it turn n 0 [] cs := by
  cases s with
  | fz ps =>
    show guard_ (fits ps.length) (lcL turn ps cs) = .bad ∨ _
    cases hf : fits ps.length with
    | false => exact .inl rfl
    | true =>
      refine .inr ⟨ps.length + 1, ?_⟩
      show guard_ (fits ps.length) (lcL turn ps cs) = _
      rw [guard_of hf, lcN_fz turn ps _ 0 [] cs (by omega) (by omega) (by have := of_decide_eq_true hf; simp; omega)]
      show lcL turn ps cs = (lcL turn ps cs).bind fun ys cs1 => .ok ys cs1
      rw [Res.bind_id]
  | lv it => exact .inr ⟨FU, rfl⟩
/-- [e for g in src if c], frozen | a cell; vs: the comprehension's own slots -/
def fLc (src : FI) (g : FG) (c : FT) (e : FE) (vs : List Nat) : FE := fun sl cs => (src sl cs).bind fun s cs1 => (lcS (lcTurn g c e (wipeS sl vs)) s cs1).bind fun ys cs2 => .ok (.lst ys) cs2
def fLcC (src : FI) (g : FG) (c : FT) (e : FE) (vs : List Nat) : FE := fun sl cs => (src sl cs).bind fun s cs1 => (lcS (lcTurn g c e (wipeS sl vs)) s cs1).bind fun ys cs2 => .ok (.ref cs2.length) (cs2 ++ [.lst ys])
def fYes : FT := fun _ cs => .ok true cs
abbrev W0 : WE := ⟨fun _ _ _ _ => False, none⟩
theorem out_noX {K : PySem.W.Frag} {mg : Str → Option Value} {α β γ δ : Type} {R : Hp → List Addr → α → γ → Prop} {R' : Hp → List Addr → β → δ → Prop} {E E' : XK} {U0 H0 U H : Hp} {μ0 μ : List Addr} {r : Res α} {k : α → Cells → Res β} {Q : δ → Hp → Prop} {Q1 : γ → Hp → Prop} (h : Out K mg R' E U0 H0 μ0 ((noX r).bind k) Q)
    (c : ∀ a cs1 w U1 H1 μ1, Gr U H μ U1 H1 μ1 → Rel0 K mg cs1 μ1 U1 H1 → R U1 μ1 a w → Out K mg R' E U0 H0 μ0 (k a cs1) Q → Q1 w H1) : Out K mg R E' U H μ r Q1 := by
  cases r with
  | ok a cs => exact fun w U' H' μ' g' r' q => c a cs w U' H' μ' g' r' q h
  | exn c fs cs => exact h.elim
  | bad => exact h.elim
section
variable {K : PySem.W.Frag} {mg : Str → Option Value} {W : WE} {src : FI} {g : FG} {c : FT} {e : FE} {vs : List Nat}
theorem rd_lc {mk : List Pv → Cells → Res Pv} (cell : Bool) (hmk : ∀ ys cs, mk ys cs = if cell = true then .ok (.ref cs.length) (cs ++ [.lst ys]) else .ok (.lst ys) cs) (σ : L2.St) (H : Hp) (Q : VK)
    (q : rdE K mg W (fun sl cs => (src sl cs).bind fun s cs1 => (lcS (lcTurn g c e (wipeS sl vs)) s cs1).bind mk) σ H Q) : tLc (rdI K mg W src) (rdG K mg none vs g) (rdT K mg W0 c) (rdE K mg W0 e) vs σ H Q := by
  obtain ⟨sl, cs, μ, U, r0, rs, q⟩ := q
  refine ⟨sl, cs, μ, U, r0, rs, Out.seq q fun s cs1 J U1 H1 μ1 _ g1 r1 hJ h1 => fun D hD => ?_⟩
  rcases lcS_N (lcTurn g c e (wipeS sl vs)) s cs1 with hb | ⟨n, hn⟩
  · rw [hb] at h1; exact h1.elim
  rw [hn] at h1
  obtain ⟨rD, gD⟩ := r1.hidden (o := .lst []) hD
  have hUD : U1 D = none := r1.vh.none hD
  have hmD : D ∉ μ1 := fun z => r1.there z hD
  have rs1 := (rs.mono g1).lose.wipe vs
  refine ⟨fun i m H => ∃ acc ws cs μ U, Gr U1 H1 μ1 U H μ ∧ Rel0 K mg cs μ U H ∧ H D = some (.lst ws) ∧ U D = none ∧ D ∉ μ ∧ RepVs K mg U μ acc ws ∧ Out K mg (RepV K mg) (fun c d H => W.w c d σ H) U1 H1 μ1 ((lcN s.it (lcTurn g c e (wipeS sl vs)) m i acc cs).bind mk) Q,
    ⟨n, [], [], cs1, μ1, U1, gD, rD, upd_same, hUD, hmD, .nil, h1⟩, ?_⟩
  rintro i m H2 ⟨acc, ws, cs2, μ2, U2, g2, r2, hD2, hU2, hm2, rp2, h2⟩
  cases m with
  | zero => exact h2.elim
  | succ m =>
    have hJ2 := hJ U2 H2 μ2 cs2 i g2.vv g2.mm r2
    have h2 : Out K mg (RepV K mg) (fun c d H => W.w c d σ H) U1 H1 μ1 ((match s.it i cs2 with
      | some (some v) => (lcTurn g c e (wipeS sl vs) v cs2).bind fun o cs1 => match o with
        | some y => guard_ (fits (acc.length + 1)) (lcN s.it (lcTurn g c e (wipeS sl vs)) m (i + 1) (acc ++ [y]) cs1)
        | none => lcN s.it (lcTurn g c e (wipeS sl vs)) m (i + 1) acc cs1
      | some none => .ok acc cs2
      | none => .bad).bind mk) Q := h2
    cases hv : s.it i cs2 with
    | none => rw [hv] at h2; exact h2.elim
    | some o =>
      rw [hv] at h2 hJ2
      cases o with
      | none =>
        refine .inl ⟨hJ2, ?_⟩
        have h2 : Out K mg (RepV K mg) (fun c d H => W.w c d σ H) U1 H1 μ1 (mk acc cs2) Q := h2
        rw [hmk] at h2
        cases cell with
        | false =>
          rw [if_neg Bool.false_ne_true] at h2
          obtain ⟨r3, ex3⟩ := r2.show_ hD2 hU2 hm2
          refine h2 _ _ _ μ2 ⟨g2.vv.trans ex3, g2.mm, fun a o ha hu hm => ?_⟩ r3 (.lst (.of upd_same) (rp2.mono ex3 (List.prefix_refl _)))
          obtain ⟨b1, b2, b3⟩ := g2.hid a o ha hu hm
          exact ⟨b1, by rw [upd_ne (ne_of_none ha hD)]; exact b2, b3⟩
        | true =>
          rw [if_pos rfl] at h2
          have pm : μ2 <+: μ2 ++ [D] := List.prefix_append _ _
          have r3 := r2.cell (p := D) (c := .lst acc) ⟨ws, hD2, rp2.mono (Ex.refl _) pm⟩ hU2 hm2
          refine h2 _ U2 _ (μ2 ++ [D]) ⟨g2.vv, g2.mm.trans pm, fun a o ha hu hm => ?_⟩ r3 (.ref ?_)
          · obtain ⟨b1, b2, b3⟩ := g2.hid a o ha hu hm
            refine ⟨b1, b2, fun z => ?_⟩
            rcases List.mem_append.mp z with z | z
            · exact b3 z
            · exact ne_of_none ha hD (by simpa using z)
          · rw [← r2.len, List.getElem?_append_right (Nat.le_refl _), Nat.sub_self]; rfl
      | some v =>
        obtain ⟨go, yl⟩ := hJ2
        have nx : ∀ {acc' : List Pv} {ws' : List V} {cs' : Cells} {μ' : List Addr} {U' H' : Hp}, Gr U1 H1 μ1 U' H' μ' → Rel0 K mg cs' μ' U' H' → H' D = some (.lst ws') → U' D = none → D ∉ μ' → RepVs K mg U' μ' acc' ws' → Out K mg (RepV K mg) (fun c d H => W.w c d σ H) U1 H1 μ1 ((lcN s.it (lcTurn g c e (wipeS sl vs)) m (i + 1) acc' cs').bind mk) Q →
          ∃ acc ws cs μ U, Gr U1 H1 μ1 U H' μ ∧ Rel0 K mg cs μ U H' ∧ H' D = some (.lst ws) ∧ U D = none ∧ D ∉ μ ∧ RepVs K mg U μ acc ws ∧ Out K mg (RepV K mg) (fun c d H => W.w c d σ H) U1 H1 μ1 ((lcN s.it (lcTurn g c e (wipeS sl vs)) m (i + 1) acc cs).bind mk) Q :=
          fun a1 a2 a3 a4 a5 a6 a7 => ⟨_, _, _, _, _, a1, a2, a3, a4, a5, a6, a7⟩
        refine .inr ⟨go, fun H => ∃ acc ws cs μ U, Gr U1 H1 μ1 U H μ ∧ Rel0 K mg cs μ U H ∧ H D = some (.lst ws) ∧ U D = none ∧ D ∉ μ ∧ RepVs K mg U μ acc ws ∧ Out K mg (RepV K mg) (fun c d H => W.w c d σ H) U1 H1 μ1 ((lcN s.it (lcTurn g c e (wipeS sl vs)) m (i + 1) acc cs).bind mk) Q, fun H' hN => ⟨m, Nat.lt_succ_self _, hN⟩, fun x H3 y => ?_⟩
        obtain ⟨U3, g3, r3, p3⟩ := yl x H3 y
        obtain ⟨d3, u3, m3⟩ := g3.hid D _ hD2 hU2 hm2
        have G3 := g2.trans g3
        have rs3 : RelS K mg none U3 μ2 (wipeS sl vs) (L2.wipe σ vs) := (rs1.mono g2).mono g3
        have rp3 := rp2.mono g3.vv g3.mm
        have h2 : Out K mg (RepV K mg) (fun c d H => W.w c d σ H) U1 H1 μ1 ((((match g v (wipeS sl vs) cs2 with
          | some sl2 => (noX (c sl2 cs2)).bind fun b cs1 => if b = true then (noX (e sl2 cs1)).bind fun y cs2 => .ok (some y) cs2 else .ok none cs1
          | none => .bad) : Res (Option Pv)).bind fun o cs1 => match o with
            | some y => guard_ (fits (acc.length + 1)) (lcN s.it (lcTurn g c e (wipeS sl vs)) m (i + 1) (acc ++ [y]) cs1)
            | none => lcN s.it (lcTurn g c e (wipeS sl vs)) m (i + 1) acc cs1).bind mk) Q := h2
        split at h2
        · rename_i sl2 esl
          refine ⟨v, wipeS sl vs, cs2, μ2, U3, sl2, r3, rs3, p3, esl, fun σ2 rs2 hw => ⟨hw.trans (wipe_wipe σ vs), ?_⟩⟩
          rw [Res.bind_assoc, Res.bind_assoc] at h2
          refine ⟨sl2, cs2, μ2, U3, r3, rs2, out_noX h2 fun b cs4 wb U4 H4 μ4 g4 r4 pb h4 => ?_⟩
          obtain ⟨d4, u4, m4⟩ := g4.hid D _ d3 u3 m3
          have G4 := G3.trans g4
          subst pb
          cases b with
          | false =>
            rw [if_neg Bool.false_ne_true] at h4 ⊢
            exact nx G4 r4 d4 u4 m4 (rp3.mono g4.vv g4.mm) h4
          | true =>
            rw [if_pos rfl] at h4 ⊢
            rw [Res.bind_assoc] at h4
            refine ⟨sl2, cs4, μ4, U4, r4, rs2.mono g4, out_noX h4 fun y cs5 wy U5 H5 μ5 g5 r5 py h5 => ?_⟩
            obtain ⟨d5, u5, m5⟩ := g5.hid D _ d4 u4 m4
            have G5 := G4.trans g5
            have h5 : Out K mg (RepV K mg) (fun c d H => W.w c d σ H) U1 H1 μ1 ((guard_ (fits (acc.length + 1)) (lcN s.it (lcTurn g c e (wipeS sl vs)) m (i + 1) (acc ++ [y]) cs5)).bind mk) Q := h5
            cases hz : fits (acc.length + 1) with
            | false => rw [hz] at h5; exact h5.elim
            | true =>
              rw [hz] at h5
              have rp5 := (rp3.mono g4.vv g4.mm).mono g5.vv g5.mm
              refine ⟨ws, d5, ?_, nx ?_ (r5.turn d5 u5 m5) upd_same u5 m5 (rp5.append (.cons py .nil)) h5⟩
              · have := fits.ok hz
                rw [← rp2.length]; omega
              · refine ⟨G5.vv, G5.mm, fun a o ha hu hm => ?_⟩
                obtain ⟨b1, b2, b3⟩ := G5.hid a o ha hu hm
                exact ⟨by rw [upd_ne (ne_of_none ha hD)]; exact b1, b2, b3⟩
        · exact h2.elim
end
theorem PTs.le {X : Cx} {es : List Expr} {t t' : TT} (h : PTs X es t) (l : ∀ σ H Q, t' σ H Q → t σ H Q) : PTs X es t' := ⟨fun pins s σ H Q I q => h.run pins s σ H Q I (l σ H Q q)⟩
section
variable {X : Cx} {W : WE} {src : FI} {g : FG} {c : FT} {e : FE} {elt tg iter cc : Expr} {ifs : List Expr} {scope : Scope} {own : List (Str × Nat)} {pos spos py : Pos}
theorem ts_nil : PTs X [] (rdT X.K X.mg W fYes) := PTs.le pts_nil fun σ H Q q => by
  obtain ⟨sl, cs, μ, U, r0, rs, q⟩ := q
  exact q _ _ _ _ Gr.refl r0 rfl
theorem ts_one (h : PT X cc (rdT X.K X.mg W c)) : PTs X [cc] (rdT X.K X.mg W c) := pts_one h
theorem b_lc (hc : X.calm = true) (hN : X.N.Nodup) (ok : BlkOk X.N X.env.scope scope own) (hi : PI X tg iter (rdI X.K X.mg W src))
    (hg : ∀ (s : Shared) (H : Hp) (C : Addr) (cl : List (Str × Addr)) (fp : List Addr), PG (X.blk s H scope (compEnvC scope cl C X.env) fp) tg (rdG X.K X.mg none (own.map (·.2)) g)) (ht : ∀ (s : Shared) (H : Hp) (C : Addr) (cl : List (Str × Addr)) (fp : List Addr), PTs (X.blk s H scope (compEnvC scope cl C X.env) fp) ifs (rdT X.K X.mg W0 c))
    (he : ∀ (s : Shared) (H : Hp) (C : Addr) (cl : List (Str × Addr)) (fp : List Addr), PE (X.blk s H scope (compEnvC scope cl C X.env) fp) elt (rdE X.K X.mg W0 e)) (hs : ∀ x, foldedSetIterable iter X.env x = pure x := by intro _; rfl) :
    PE X (.ListComp elt [⟨tg, iter, ifs, 0⟩] scope pos) (rdE X.K X.mg W (fLc src g c e (own.map (·.2)))) := PE.le (pe_lc hc hN hi ok hg ht he hs) (rd_lc false fun _ _ => rfl)
/-- y = [..] -/
theorem s_asgLc {i : Nat} {y : Str} (hc : X.calm = true) (hN : X.N.Nodup) (hsw : swapsWith (.ListComp elt [⟨tg, iter, ifs, 0⟩] scope pos) (some (.Name y py)) spos.line X.env = pure true) (ok : BlkOk X.N X.env.scope scope own) (hi : PI X tg iter (rdI X.K X.mg W src))
    (hg : ∀ (s : Shared) (H : Hp) (C : Addr) (cl : List (Str × Addr)) (fp : List Addr), PG (X.blk s H scope (compEnvC scope cl C X.env) fp) tg (rdG X.K X.mg none (own.map (·.2)) g)) (ht : ∀ (s : Shared) (H : Hp) (C : Addr) (cl : List (Str × Addr)) (fp : List Addr), PTs (X.blk s H scope (compEnvC scope cl C X.env) fp) ifs (rdT X.K X.mg W0 c))
    (he : ∀ (s : Shared) (H : Hp) (C : Addr) (cl : List (Str × Addr)) (fp : List Addr), PE (X.blk s H scope (compEnvC scope cl C X.env) fp) elt (rdE X.K X.mg W0 e)) (hy : X.N[i]? = some y := by rfl) (hyl : X.env.scope.names.lookup y = some .local := by rfl) (hs : ∀ x, foldedSetIterable iter X.env x = pure x := by intro _; rfl) :
    PS X (.Assign [.Name y py] (.ListComp elt [⟨tg, iter, ifs, 0⟩] scope pos) spos) (rdS X.K X.mg W (sAsg i (fLc src g c e (own.map (·.2))))) := PS.le (ps_setLc hc hN hy hyl hsw hi ok hg ht he hs) fun D σ H q => by
  obtain ⟨sl, cs, μ, U, r0, rs, q⟩ := q
  exact rd_lc false (fun _ _ => rfl) σ H _ ⟨sl, cs, μ, U, r0, rs, OutS.seq q rs fun x cs1 w U1 H1 μ1 _ g1 r1 p1 h1 => h1 _ _ _ _ Gr.refl r1 ((rs.mono g1).set p1 i)⟩
theorem s_asgLcC {i : Nat} {y : Str} (hc : X.calm = true) (hN : X.N.Nodup) (hsw : swapsWith (.ListComp elt [⟨tg, iter, ifs, 0⟩] scope pos) (some (.Name y py)) spos.line X.env = pure true) (ok : BlkOk X.N X.env.scope scope own) (hi : PI X tg iter (rdI X.K X.mg W src))
    (hg : ∀ (s : Shared) (H : Hp) (C : Addr) (cl : List (Str × Addr)) (fp : List Addr), PG (X.blk s H scope (compEnvC scope cl C X.env) fp) tg (rdG X.K X.mg none (own.map (·.2)) g)) (ht : ∀ (s : Shared) (H : Hp) (C : Addr) (cl : List (Str × Addr)) (fp : List Addr), PTs (X.blk s H scope (compEnvC scope cl C X.env) fp) ifs (rdT X.K X.mg W0 c))
    (he : ∀ (s : Shared) (H : Hp) (C : Addr) (cl : List (Str × Addr)) (fp : List Addr), PE (X.blk s H scope (compEnvC scope cl C X.env) fp) elt (rdE X.K X.mg W0 e)) (hy : X.N[i]? = some y := by rfl) (hyl : X.env.scope.names.lookup y = some .local := by rfl) (hs : ∀ x, foldedSetIterable iter X.env x = pure x := by intro _; rfl) :
    PS X (.Assign [.Name y py] (.ListComp elt [⟨tg, iter, ifs, 0⟩] scope pos) spos) (rdS X.K X.mg W (sAsg i (fLcC src g c e (own.map (·.2))))) := PS.le (ps_setLc hc hN hy hyl hsw hi ok hg ht he hs) fun D σ H q => by
  obtain ⟨sl, cs, μ, U, r0, rs, q⟩ := q
  exact rd_lc true (fun _ _ => rfl) σ H _ ⟨sl, cs, μ, U, r0, rs, OutS.seq q rs fun x cs1 w U1 H1 μ1 _ g1 r1 p1 h1 => h1 _ _ _ _ Gr.refl r1 ((rs.mono g1).set p1 i)⟩
end
def sPar (i j : Nat) (t : FA) : FS := fun sl cs => (t sl cs).go sl fun vs cs1 => match vs with
  | [v, w] => .nx ((sl.set i (some v)).set j (some w)) cs1
  | _ => .bad
def sPar3 (i j l : Nat) (t : FA) : FS := fun sl cs => (t sl cs).go sl fun vs cs1 => match vs with
  | [u, v, w] => .nx (((sl.set i (some u)).set j (some v)).set l (some w)) cs1
  | _ => .bad
section
variable {X : Cx} {W : WE} {t : FA} {a b c : Expr} {px py pz pt pos : Pos} {x y z : Str}
theorem s_par3 {i j l : Nat} {kt k2 pt2} (hc : X.calm = true) (hN : X.N.Nodup) (ha : PA X [a, b, c] (rdA X.K X.mg W t)) (hi : X.N[i]? = some x := by rfl) (hj : X.N[j]? = some y := by rfl) (hl : X.N[l]? = some z := by rfl) (hij : i ≠ j := by decide) (hil : i ≠ l := by decide) (hjl : j ≠ l := by decide)
    (hx : X.env.scope.names.lookup x = some .local := by rfl) (hy : X.env.scope.names.lookup y = some .local := by rfl) (hz : X.env.scope.names.lookup z = some .local := by rfl)
    (hw : swappedStores [.Tuple [.Name x px, .Name y py, .Name z pz] kt pt] (.Tuple [a, b, c] k2 pt2) X.env = pure (some [x, y, z]) := by rfl)
    (hs : swapsWithSole [.Tuple [.Name x px, .Name y py, .Name z pz] kt pt] (.Tuple [a, b, c] k2 pt2) pos.line X.env = pure false := by rfl) :
    PS X (.Assign [.Tuple [.Name x px, .Name y py, .Name z pz] kt pt] (.Tuple [a, b, c] k2 pt2) pos) (rdS X.K X.mg W (sPar3 i j l t)) := PS.le (ps_par3 hc hN hi hj hl hij hil hjl hx hy hz ha hw hs) fun D σ H q => by
  obtain ⟨sl, cs, μ, U, r0, rs, q⟩ := q
  refine ⟨sl, cs, μ, U, r0, rs, OutS.seq q rs fun vs cs1 ws U1 H1 μ1 _ g1 r1 p1 h1 => ?_⟩
  split at h1
  · cases p1 with
    | cons q1 q2 =>
      cases q2 with
      | cons q2 q3 =>
        cases q3 with
        | cons q3 q4 =>
          cases q4
          exact ⟨_, _, _, rfl, h1 _ _ _ _ Gr.refl r1 ((((rs.mono g1).set q1 i).set q2 j).set q3 l)⟩
  · exact h1.elim
end
def tyIs (T : String) (v : Pv) (cs : Cells) : Bool := match v with
  | .str _ => T == "str"
  | .int _ => T == "int"
  | v => (T == "list" && (asL cs v).isSome) || (T == "dict" && match v with
    | .ref k => match cs[k]? with
      | some (.dK _) => true
      | some (.dT _) => true
      | _ => false
    | _ => false)
theorem tyIs_ok {K : PySem.W.Frag} {mg : Str → Option Value} {U H : Hp} {μ : List Addr} {cs : Cells} {T : String} {p : Pv} {v : V} (r : Rel0 K mg cs μ U H) (h : RepV K mg U μ p v) (e : tyIs T p cs = true) : tyV K T v H := by
  unfold tyIs at e
  split at e
  · cases h; exact (show T = "str" by simpa using e)
  · cases h; exact (show T = "int" by simpa using e)
  · rcases Bool.or_eq_true_iff.mp e with e | e
    · obtain ⟨e1, e2⟩ := Bool.and_eq_true_iff.mp e
      obtain ⟨xs, ex⟩ := Option.isSome_iff_exists.mp e2
      obtain ⟨a, ws, rfl, s, q⟩ := asL_ok r h ex
      exact .inl ⟨by simpa using e1, ws, s⟩
    · obtain ⟨e1, e2⟩ := Bool.and_eq_true_iff.mp e
      split at e2
      · cases h with
        | ref hm =>
          split at e2
          · rename_i kvs hk
            obtain ⟨ws, h1, _⟩ := r.cel _ _ _ hk hm
            exact .inr (.inr (.inl ⟨by simpa using e1, .inl ⟨ws, h1⟩⟩))
          · rename_i kvs hk
            obtain ⟨ws, h1, _⟩ := r.cel _ _ _ hk hm
            exact .inr (.inr (.inl ⟨by simpa using e1, .inr ⟨ws, h1⟩⟩))
          · cases e2
      · cases e2
abbrev FM := Pv → List Pv → Cells → Res Pv
def fMeth (T : String) (m : FM) (o : FE) (t : FA) : FE := fun sl cs => (o sl cs).bind fun ov cs1 => guard_ (tyIs T ov cs1) ((t sl cs1).bind fun vs cs2 => m ov vs cs2)
def fMeth0 (T : String) (m : FM) (o : FE) : FE := fun sl cs => (o sl cs).bind fun ov cs1 => guard_ (tyIs T ov cs1) (m ov [] cs1)
def OkM (K : PySem.W.Frag) (mg : Str → Option Value) (m : FM) (r : V → List V → Hp → VK → Prop) : Prop := ∀ (E : XK) p ps cs v vs U H μ Q, Rel0 K mg cs μ U H → RepV K mg U μ p v → RepVs K mg U μ ps vs → Out K mg (RepV K mg) E U H μ (m p ps cs) Q → r v vs H Q
section
variable {X : Cx} {W : WE} {fo : FE} {t : FA} {o e : Expr} {es : List Expr} {apos cpos : Pos} {T id : String} {name : Str} {r : V → List V → Hp → VK → Prop} {m : FM}
theorem b_meth (pa : PlainAttrs T) (slot : Slot T name id) (hty : typeOf (.builtin id) = pure (.type "method_descriptor")) (hm : MtR X id r) (hr : OkM X.K X.mg m r) (ho : PE X o (rdE X.K X.mg W fo)) (ha : PA X (e :: es) (rdA X.K X.mg W t))
    (hbase : attributeBase o name X.env (eval o X.env) = eval o X.env := by rfl)
    (hfew : ((backTo cpos (starEach (e :: es) X.env)).all (fun x => !x.1) && (backToKw cpos (keywordEach [] X.env)).all (fun x => x.1.isSome)
      && decide ((e :: es).length + ([] : List Keyword).length + (if ([] : List Keyword).isEmpty then 0 else 1) < 30)) = true := by rfl)
    (hline : (apos.endLine == cpos.line) = true := by rfl) (hs : starEach (e :: es) X.env = (false, eval e X.env) :: starEach es X.env := by rfl) (hplain : (backTo cpos (starEach es X.env)).any (·.1) = false := by rfl) :
    PE X (.Call (.Attribute o name apos) (e :: es) [] cpos) (rdE X.K X.mg W (fMeth T m fo t)) := PE.le (pe_bm pa slot hty hm ho ha hbase hfew hline hs hplain) fun σ H Q q => by
  obtain ⟨sl, cs, μ, U, r0, rs, q⟩ := q
  refine ⟨sl, cs, μ, U, r0, rs, Out.seq q fun ov cs1 w U1 H1 μ1 _ g1 r1 p1 h1 => ?_⟩
  obtain ⟨hz, h1⟩ := out_guard h1
  exact ⟨tyIs_ok r1 p1 hz, sl, cs1, μ1, U1, r1, rs.mono g1, Out.seq h1 fun vs cs2 ws U2 H2 μ2 _ g2 r2 p2 h2 => hr _ _ _ _ _ _ _ _ _ _ r2 (p1.mono g2.vv g2.mm) p2 h2⟩
theorem b_meth0 (pa : PlainAttrs T) (slot : Slot T name id) (hty : typeOf (.builtin id) = pure (.type "method_descriptor")) (hm : MtR X id r) (hr : OkM X.K X.mg m r) (ho : PE X o (rdE X.K X.mg W fo))
    (hbase : attributeBase o name X.env (eval o X.env) = eval o X.env := by rfl) (hline : (apos.endLine == cpos.line) = true := by rfl) : PE X (.Call (.Attribute o name apos) [] [] cpos) (rdE X.K X.mg W (fMeth0 T m fo)) := PE.le (pe_bm0 pa slot hty hm ho hbase hline) fun σ H Q q => by
  obtain ⟨sl, cs, μ, U, r0, rs, q⟩ := q
  refine ⟨sl, cs, μ, U, r0, rs, Out.seq q fun ov cs1 w U1 H1 μ1 _ g1 r1 p1 h1 => ?_⟩
  obtain ⟨hz, h1⟩ := out_guard h1
  exact ⟨tyIs_ok r1 p1 hz, hr _ _ _ _ _ _ _ _ _ _ r1 p1 .nil h1⟩
end
def mAppend : FM := fun o vs cs => match o, vs with
  | .ref k, [v] => match cs[k]? with
    | some (.lst xs) => guard_ (fits (xs.length + 1)) (.ok .non (cs.set k (.lst (xs ++ [v]))))
    | _ => .bad
  | _, _ => .bad
theorem ok_append {K : PySem.W.Frag} {mg : Str → Option Value} : OkM K mg mAppend rAppend := by
  intro E p ps cs v vs U H μ Q r hp hps h
  unfold mAppend at h
  split at h
  · split at h
    · rename_i xs hk
      obtain ⟨hz, h⟩ := out_guard h
      cases hp with
      | ref hm =>
        cases hps with
        | cons h1 h2 =>
          cases h2
          obtain ⟨ws, q1, q2⟩ := r.cel _ _ _ hk hm
          refine ⟨_, ws, _, rfl, rfl, q1, by have := fits.ok hz; rw [← q2.length]; omega, ?_⟩
          obtain ⟨r4, g4⟩ := r.put (c' := .lst (xs ++ [_])) (o := .lst (ws ++ [_])) hk (fun z => nomatch z) hm ⟨_, rfl, q2.append (.cons h1 .nil)⟩
          exact h _ _ _ _ g4 r4 .non
    · exact h.elim
  · exact h.elim
section
variable (K : PySem.W.Frag) (mg : Str → Option Value)
/-- a def's promise: the plain function m -/
def spOf (n : Nat) (m : FN) : Sp := fun vs H Q E => vs.length = n ∧ ∃ ps cs μ U, Rel0 K mg cs μ U H ∧ RepVs K mg U μ ps vs ∧ Out K mg (RepV K mg) E U H μ (m ps cs) Q
end
def LenA (t : FA) (n : Nat) : Prop := ∀ sl cs vs cs1, t sl cs = .ok vs cs1 → vs.length = n
theorem len_nil : LenA fNil 0 := fun _ _ vs cs1 h => by cases h; rfl
theorem len_cons {f : FE} {t : FA} {n : Nat} (h : LenA t n) : LenA (fCons f t) (n + 1) := fun sl cs vs cs1 e => by
  unfold fCons at e
  cases hf : f sl cs with
  | ok v cs2 =>
    rw [hf] at e
    have e : (t sl cs2).bind (fun vs cs2 => Res.ok (v :: vs) cs2) = .ok vs cs1 := e
    cases ht : t sl cs2 with
    | ok us cs3 =>
      rw [ht] at e
      cases e
      rw [List.length_cons, h sl cs2 us _ ht]
    | exn c fs cs3 => rw [ht] at e; cases e
    | bad => rw [ht] at e; cases e
  | exn c fs cs2 => rw [hf] at e; cases e
  | bad => rw [hf] at e; cases e
section
variable {X : Cx} {W : WE} {t : FA} {k n : Nat} {f : Addr} {fd : FuncData} {ps : List Str} {m : FN} {x : Str} {p pos : Pos} {e : Expr} {es : List Expr}
theorem b_call (F : FnOk X.prog X.w X.K X.mg X.base (L2.CX X.prog X.w) k f fd ps (spOf X.K X.mg n m)) (hr : Room k X.A) (hm : X.mg x = some (.ref f)) (hk : PySem.W.keepIn X.K (.ref f) = true) (hb : Binds X.K fd ps []) (tk : Takes X W.w)
    (ha : PA X (e :: es) (rdA X.K X.mg W t)) (hl : LenA t n) (hg : Gl X x := by rfl) (hdb : (x == ("__debug__" : Str)) = false := by decide) (he : starEach (e :: es) X.env = (false, eval e X.env) :: starEach es X.env := by rfl) (hpl : (backTo pos (starEach es X.env)).any (·.1) = false := by rfl) :
    PE X (.Call (.Name x p) (e :: es) [] pos) (rdE X.K X.mg W (fCall m t)) := PE.le (pe_callS F hr hg hm hk hb (fun σ => passAt tk σ) ha hdb he hpl) fun σ H Q q => by
  obtain ⟨sl, cs, μ, U, r0, rs, q⟩ := q
  exact ⟨sl, cs, μ, U, r0, rs, Out.seq q fun vs cs1 ws U1 H1 μ1 ev g1 r1 p1 h1 => ⟨by rw [← p1.length]; exact hl _ _ _ _ ev, vs, cs1, μ1, U1, r1, p1, h1⟩⟩
theorem takesB {X : Cx} : Takes X W0.w := fun _ _ x => by
  obtain ⟨_, _, _, _, _, _, _, _, _, _, _, _, _, _, _, _, z⟩ := x
  exact z.elim
end
/-- what a def's body comes to, as a function -/
def fnOut : RS → Res Pv
  | .rt v cs => .ok v cs
  | .nx _ cs => .ok .non cs
  | .exn c fs _ cs => .exn c fs cs
  | _ => .bad
def slots (N : Nat) (ps : List Pv) : Sl := ps.map some ++ List.replicate (N - ps.length) none
def fnSem (n N : Nat) (body : FS) : FN := fun ps cs => fnOut (body (slots N ps) cs)
theorem relS_start {K : PySem.W.Frag} {mg : Str → Option Value} {U : Hp} {μ : List Addr} {ps : List Pv} {vs : List V} {N : List Str} (h : RepVs K mg U μ ps vs) : RelS K mg none U μ (slots N.length ps) (start N vs) := by
  have hl := h.length
  refine ⟨?_, fun i p e => ?_, fun x ex => nomatch ex⟩
  · unfold slots L2.start
    simp [hl]
  · unfold slots at e
    by_cases hi : i < ps.length
    · rw [List.getElem?_append_left (by simpa using hi), List.getElem?_map] at e
      obtain ⟨q, h1, h2⟩ := Option.map_eq_some_iff.mp e
      cases h2
      obtain ⟨v, h3, h4⟩ := h.at h1
      refine ⟨v, ?_, h4⟩
      unfold L2.start
      rw [List.getElem?_append_left (by rw [List.length_map, ← hl]; exact hi), List.getElem?_map, h3]
      rfl
    · rw [List.getElem?_append_right (by simpa using hi), List.getElem?_replicate] at e
      split at e <;> cases e
section
variable {P : Program} {w : World} {K : PySem.W.Frag} {mg : Str → Option Value} {base : Heap} {x qual : Str} {st : Stmt} {f : Addr} {fd : FuncData} {N ps : List Str} {k : Nat}
/-- THE RULE for a def -/
theorem fn_ok {body : FS} (F : Fun K x qual st f fd) (S : FnScope N ps (defScope st))
    (hb : ∀ (cdv : Value) (A : Around) (outer : List Env) (s : Shared) (H : Hp) (E : XK), Room k (A.deeper (envOfC qual (defScope st) s.heap.objs.size f cdv)) → Takes (cxOf (L2.CX P w) P w K mg base N qual (defScope st) f cdv A outer s H E) (fun cls d _ H => E cls d H) →
      PassesOwn (model P w) (A.deeper (envOfC qual (defScope st) s.heap.objs.size f cdv)) (envOfC qual (defScope st) s.heap.objs.size f cdv) (cxOf (L2.CX P w) P w K mg base N qual (defScope st) f cdv A outer s H E).xe →
      PSs (cxOf (L2.CX P w) P w K mg base N qual (defScope st) f cdv A outer s H E) (defBody st) (rdS K mg ⟨fun cls d _ H => E cls d H, none⟩ body)) :
    FnOk P w K mg base (L2.CX P w) (k + 1) f fd ps (spOf K mg ps.length (fnSem ps.length N.length body)) := by
  refine F.okX S (fun vs H Q E h => h.1) (fun cdv A outer s H vs Q E hr h => ⟨_, hb cdv A outer s H E hr (takes_of rfl rfl rfl rfl) (passes_of rfl), ?_⟩)
  obtain ⟨_, qs, cs, μ, U, r0, rp, h⟩ := h
  refine ⟨slots N.length qs, cs, μ, U, r0, relS_start rp, ?_⟩
  unfold fnSem at h
  cases hbd : body (slots N.length qs) cs with
  | rt v cs1 => rw [hbd] at h; exact h
  | nx sl cs1 => rw [hbd] at h; exact fun σ' U' H' μ' g r rs => h _ U' H' μ' g r .non
  | exn c fs sl cs1 => rw [hbd] at h; exact fun C d σ' U' H' μ' g r rs m x => h C d U' H' μ' g r m x
  | bk sl cs1 => rw [hbd] at h; exact h.elim
  | ct sl cs1 => rw [hbd] at h; exact h.elim
  | bad => rw [hbd] at h; exact h.elim
end
end AL
set_option Elab.async false
set_option linter.all false
set_option autoImplicit false
set_option maxRecDepth 100000
set_option maxHeartbeats 4000000
namespace AL
open PySem PySem.Spec PyProof.Rows L2
inductive Kd where
  | l | t
def ItX (k : Kd) (h : Heap) (it a : Addr) (i : Nat) : Prop := match k with
  | .l => h.IsListIter it a i
  | .t => h.IsTupleIter it a i
def SeX (k : Kd) (h : Heap) (a : Addr) (its : Array Value) : Prop := match k with
  | .l => h.IsList a its
  | .t => h.IsTuple a its
theorem ItX.obj {k : Kd} {h : Heap} {it a : Addr} {i : Nat} (x : ItX k h it a i) : ∃ o, h.get? it = some o ∧ ∀ v, o.data ≠ .cell v := by
  cases k with
  | l => obtain ⟨o, e, _, d⟩ := x; exact ⟨o, e, fun v q => by rw [d] at q; cases q⟩
  | t => obtain ⟨o, e, _, d⟩ := x; exact ⟨o, e, fun v q => by rw [d] at q; cases q⟩
theorem ItX.at {k : Kd} {h h' : Heap} {it a : Addr} {i : Nat} (x : ItX k h it a i) (e : ∀ o, h.get? it = some o → h'.get? it = some o) : ItX k h' it a i := by
  cases k with
  | l => exact Heap.IsListIter.at x e
  | t => exact Heap.IsTupleIter.at x e
def isFz : Pv → Bool
  | .ref _ => false
  | _ => true
def pairUp (xs ys : List Pv) : List Pv := List.zipWith (fun p q => .tup [p, q]) xs ys
def zipIt (x y : Pv) : Nat → Cells → Option (Option Pv) := fun i cs => match seqOf cs x, seqOf cs y with
  | some xs, some ys => if i ≤ (pairUp xs ys).length then some (pairUp xs ys)[i]? else none
  | _, _ => none
def iZip (f g : FE) : FI := fun sl cs => (f sl cs).bind fun x cs1 => (g sl cs1).bind fun y cs2 => match seqOf cs2 x, seqOf cs2 y with
  | some xs, some ys => if (isFz x && isFz y) = true then .ok (.fz (pairUp xs ys)) cs2 else .ok (.lv (zipIt x y)) cs2
  | _, _ => .bad
end AL
set_option Elab.async false
set_option linter.all false
set_option autoImplicit false
set_option maxRecDepth 100000
set_option maxHeartbeats 4000000
namespace AL
open PySem L2
section
variable {f g h o i : FE} {c d : FT} {t : FA} {a b s : FS} {sl : Sl} {cs : Cells}
@[simp] theorem ap_fnSem (n N : Nat) (b : FS) (ps : List Pv) (cs : Cells) : fnSem n N b ps cs = fnOut (b (slots N ps) cs) := rfl
@[simp] theorem ap_slots (N : Nat) (ps : List Pv) : slots N ps = ps.map some ++ List.replicate (N - ps.length) none := rfl
@[simp] theorem ap_out_rt (v : Pv) (cs : Cells) : fnOut (.rt v cs) = .ok v cs := rfl
@[simp] theorem ap_out_nx (sl : Sl) (cs : Cells) : fnOut (.nx sl cs) = .ok .non cs := rfl
@[simp] theorem ap_out_exn (c : Str) (fs : List (Str × Pv)) (sl : Sl) (cs : Cells) : fnOut (.exn c fs sl cs) = .exn c fs cs := rfl
@[simp] theorem ap_con (v : Pv) : fCon v sl cs = .ok v cs := rfl
@[simp] theorem ap_var0 {x : Pv} {r : Sl} : fVar 0 (some x :: r) cs = .ok x cs := rfl
@[simp] theorem ap_varS {x : Option Pv} {r : Sl} (k : Nat) : fVar (k + 1) (x :: r) cs = fVar k r cs := rfl
@[simp] theorem ap_f2 (q : F2) : f2 q f g sl cs = (f sl cs).bind fun x cs1 => (g sl cs1).bind fun y cs2 => q x y cs2 := rfl
@[simp] theorem ap_f1 (q : Pv → Cells → Res Pv) : f1 q f sl cs = (f sl cs).bind fun x cs1 => q x cs1 := rfl
@[simp] theorem ap_tru : fTru f sl cs = (f sl cs).bind tru := rfl
@[simp] theorem ap_tst : fTst f sl cs = (f sl cs).bind fun v cs => match v with | .bl b => .ok b cs | _ => .bad := rfl
@[simp] theorem ap_not : fNot c sl cs = (c sl cs).bind fun b cs => .ok (!b) cs := rfl
@[simp] theorem ap_and : fAnd c d sl cs = (c sl cs).bind fun b cs1 => if b = true then d sl cs1 else .ok false cs1 := rfl
@[simp] theorem ap_or : fOr c d sl cs = (c sl cs).bind fun b cs1 => if b = true then .ok true cs1 else d sl cs1 := rfl
@[simp] theorem ap_ifE : fIfE c f g sl cs = (c sl cs).bind fun b cs1 => if b = true then f sl cs1 else g sl cs1 := rfl
@[simp] theorem ap_andV : fAndV f g sl cs = (f sl cs).bind fun v cs1 => match v with | .bl b => if b = true then g sl cs1 else .ok (.bl false) cs1 | _ => .bad := rfl
@[simp] theorem ap_orV : fOrV f g sl cs = (f sl cs).bind fun v cs1 => match v with | .bl b => if b = true then .ok (.bl true) cs1 else g sl cs1 | _ => .bad := rfl
@[simp] theorem ap_notV : fNotV f sl cs = (f sl cs).bind fun v cs1 => match v with | .bl b => .ok (.bl (!b)) cs1 | _ => .bad := rfl
@[simp] theorem ap_chain (q q' : F2) : fChain q q' f g h sl cs = (f sl cs).bind fun x cs1 => (g sl cs1).bind fun y cs2 => (q x y cs2).bind fun z cs3 => match z with | .bl b => if b = true then (h sl cs3).bind fun w cs4 => q' y w cs4 else .ok (.bl false) cs3 | _ => .bad := rfl
@[simp] theorem ap_nil : fNil sl cs = .ok [] cs := rfl
@[simp] theorem ap_cons : fCons f t sl cs = (f sl cs).bind fun v cs1 => (t sl cs1).bind fun vs cs2 => .ok (v :: vs) cs2 := rfl
@[simp] theorem ap_tup : fTup t sl cs = (t sl cs).bind fun vs cs1 => guard_ (fits vs.length) (.ok (.tup vs) cs1) := rfl
@[simp] theorem ap_lst : fLst t sl cs = (t sl cs).bind fun vs cs1 => guard_ (fits vs.length) (.ok (.lst vs) cs1) := rfl
@[simp] theorem ap_lstC : fLstC t sl cs = (t sl cs).bind fun vs cs1 => guard_ (fits vs.length) (.ok (.ref cs1.length) (cs1 ++ [.lst vs])) := rfl
@[simp] theorem ap_noPart : fNoPart sl cs = .ok none cs := rfl
@[simp] theorem ap_part : fPart f sl cs = (f sl cs).bind fun v cs1 => match v with | .int i => .ok (some i) cs1 | _ => .bad := rfl
@[simp] theorem ap_slc (lo hi : FO) : fSlc f lo hi sl cs = (f sl cs).bind fun x cs1 => (lo sl cs1).bind fun l cs2 => (hi sl cs2).bind fun h cs3 => oSlc x l h cs3 := rfl
@[simp] theorem ap_call (m : FN) : fCall m t sl cs = (t sl cs).bind fun vs cs1 => m vs cs1 := rfl
@[simp] theorem ap_meth (T : String) (m : FM) : fMeth T m o t sl cs = (o sl cs).bind fun ov cs1 => guard_ (tyIs T ov cs1) ((t sl cs1).bind fun vs cs2 => m ov vs cs2) := rfl
@[simp] theorem ap_meth0 (T : String) (m : FM) : fMeth0 T m o sl cs = (o sl cs).bind fun ov cs1 => guard_ (tyIs T ov cs1) (m ov [] cs1) := rfl
@[simp] theorem ap_yes : fYes sl cs = .ok true cs := rfl
@[simp] theorem ap_ret : sRet f sl cs = (f sl cs).go sl fun v cs1 => .rt v cs1 := rfl
@[simp] theorem ap_retN : sRetN sl cs = .rt .non cs := rfl
@[simp] theorem ap_expr : sExpr f sl cs = (f sl cs).go sl fun _ cs1 => .nx sl cs1 := rfl
@[simp] theorem ap_pass : sPass sl cs = .nx sl cs := rfl
@[simp] theorem ap_seq : sSeq a b sl cs = (a sl cs).then b := rfl
@[simp] theorem ap_if : sIf c a b sl cs = (c sl cs).go sl fun q cs1 => if q = true then a sl cs1 else b sl cs1 := rfl
@[simp] theorem ap_asg (k : Nat) : sAsg k f sl cs = (f sl cs).go sl fun v cs1 => .nx (sl.set k (some v)) cs1 := rfl
@[simp] theorem ap_asgG (q : FG) : sAsgG q f sl cs = (f sl cs).go sl fun v cs1 => match q v sl cs1 with | some sl' => .nx sl' cs1 | none => .bad := rfl
@[simp] theorem ap_putIx : sPutIx o i f sl cs = (f sl cs).go sl fun v cs1 => (o sl cs1).go sl fun ov cs2 => (i sl cs2).go sl fun iv cs3 => match putIx ov iv v cs3 with | some cs4 => .nx sl cs4 | none => .bad := rfl
@[simp] theorem ap_aug (k : Nat) (q : F2) : sAug k q f sl cs = match sl[k]? with | some (some x) => (f sl cs).go sl fun y cs1 => (q x y cs1).go sl fun z cs2 => .nx (sl.set k (some z)) cs2 | _ => .bad := rfl
@[simp] theorem ap_par (k j : Nat) : sPar k j t sl cs = (t sl cs).go sl fun vs cs1 => match vs with | [v, w] => .nx ((sl.set k (some v)).set j (some w)) cs1 | _ => .bad := rfl
@[simp] theorem ap_par3 (k j l : Nat) : sPar3 k j l t sl cs = (t sl cs).go sl fun vs cs1 => match vs with | [u, v, w] => .nx (((sl.set k (some u)).set j (some v)).set l (some w)) cs1 | _ => .bad := rfl
@[simp] theorem ap_for (q : FG) (src : FI) : sFor q src b sl cs = (src sl cs).go sl fun s cs1 => forS (gTurn q b) s sl cs1 := rfl
@[simp] theorem ap_forS (body : Pv → FS) (ps : List Pv) : forS body (.fz ps) sl cs = forL body ps sl cs := rfl
@[simp] theorem ap_iSeq : iSeq f sl cs = (f sl cs).bind fun v cs1 => match srcOf cs1 v with | some s => .ok s cs1 | none => .bad := rfl
@[simp] theorem ap_iRange1 : iRange1 f sl cs = (f sl cs).bind fun v cs1 => match v with | .int j => guard_ (rngOk j) (.ok (.fz ((List.range j.toNat).map fun (k : Nat) => .int (k : Int))) cs1) | _ => .bad := rfl
@[simp] theorem ap_iZip : iZip f g sl cs = (f sl cs).bind fun x cs1 => (g sl cs1).bind fun y cs2 => match seqOf cs2 x, seqOf cs2 y with | some xs, some ys => if (isFz x && isFz y) = true then .ok (.fz (pairUp xs ys)) cs2 else .ok (.lv (zipIt x y)) cs2 | _, _ => .bad := rfl
@[simp] theorem ap_srcT (xs : List Pv) : srcOf cs (.tup xs) = some (.fz xs) := rfl
@[simp] theorem ap_srcL (xs : List Pv) : srcOf cs (.lst xs) = some (.fz xs) := rfl
@[simp] theorem ap_gN (k : Nat) (v : Pv) : gN k v sl cs = some (sl.set k (some v)) := rfl
@[simp] theorem ap_gT (n : Nat) (r : FGs) (xs : List Pv) : gT n r (.tup xs) sl cs = if xs.length = n then r xs sl cs else none := rfl
@[simp] theorem ap_gsNil : gsNil [] sl cs = some sl := rfl
@[simp] theorem ap_gsCons (q : FG) (r : FGs) (v : Pv) (vs : List Pv) : gsCons q r (v :: vs) sl cs = (q v sl cs).bind fun sl' => r vs sl' cs := rfl
@[simp] theorem ap_lcTurn (q : FG) (v : Pv) : lcTurn q c f sl v cs = match q v sl cs with | some sl2 => (noX (c sl2 cs)).bind fun b cs1 => if b = true then (noX (f sl2 cs1)).bind fun y cs2 => .ok (some y) cs2 else .ok none cs1 | none => .bad := rfl
@[simp] theorem ap_gTurn (q : FG) (v : Pv) : gTurn q b v sl cs = match q v sl cs with | some sl' => b sl' cs | none => .bad := rfl
@[simp] theorem ap_wipe0 : wipeS sl [] = sl := rfl
@[simp] theorem ap_wipe1 (k : Nat) (vs : List Nat) : wipeS sl (k :: vs) = (wipeS sl vs).set k none := rfl
end
section
variable {cs : Cells}
@[simp] theorem v_addI (i j : Int) : oAdd (.int i) (.int j) cs = .ok (.int (i + j)) cs := rfl
@[simp] theorem v_addS (x y : Str) : oAdd (.str x) (.str y) cs = guard_ (fits (x.length + y.length)) (.ok (.str (x ++ y)) cs) := rfl
@[simp] theorem v_addL (x y : List Pv) : oAdd (.lst x) (.lst y) cs = guard_ (fits (x.length + y.length)) (.ok (.lst (x ++ y)) cs) := rfl
@[simp] theorem v_addT (x y : List Pv) : oAdd (.tup x) (.tup y) cs = guard_ (fits (x.length + y.length)) (.ok (.tup (x ++ y)) cs) := rfl
@[simp] theorem v_addII (i j : Int) : oAddI (.int i) (.int j) cs = .ok (.int (i + j)) cs := rfl
@[simp] theorem v_sub (i j : Int) : oSub (.int i) (.int j) cs = .ok (.int (i - j)) cs := rfl
@[simp] theorem v_mul (i j : Int) : oMul (.int i) (.int j) cs = guard_ (mulOk i j) (.ok (.int (i * j)) cs) := rfl
@[simp] theorem v_fdiv (i j : Int) : oFdiv (.int i) (.int j) cs = guard_ (fdivOk j) (.ok (.int (i.fdiv j)) cs) := rfl
@[simp] theorem v_mod (i j : Int) : oMod (.int i) (.int j) cs = guard_ (decide (j ≠ 0)) (.ok (.int (i.fmod j)) cs) := rfl
@[simp] theorem v_pow (i j : Int) : oPow (.int i) (.int j) cs = guard_ (powOk i j) (.ok (.int (i ^ j.toNat)) cs) := rfl
@[simp] theorem v_neg (i : Int) : oNeg (.int i) cs = .ok (.int (-i)) cs := rfl
@[simp] theorem v_cmp (p : Int → Int → Bool) (i j : Int) : oCmpI p (.int i) (.int j) cs = .ok (.bl (p i j)) cs := rfl
@[simp] theorem v_ixT (xs : List Pv) (i : Int) : oIx (.tup xs) (.int i) cs = match atI xs i with | some v => .ok v cs | none => .bad := rfl
@[simp] theorem v_ixL (xs : List Pv) (i : Int) : oIx (.lst xs) (.int i) cs = match atI xs i with | some v => .ok v cs | none => .bad := rfl
theorem v_ixC {k : Nat} {xs : List Pv} (h : cs[k]? = some (.lst xs)) (i : Int) : oIx (.ref k) (.int i) cs = match atI xs i with | some v => .ok v cs | none => .bad := by
  first
    | (simp [oIx, asL, h]; done)
    | (simp [oIx, asL, h]; rfl)
@[simp] theorem v_slcL (xs : List Pv) (lo hi : Option Int) : oSlc (.lst xs) lo hi cs = .ok (.lst (cut xs lo hi)) cs := rfl
@[simp] theorem v_slcT (xs : List Pv) (lo hi : Option Int) : oSlc (.tup xs) lo hi cs = .ok (.tup (cut xs lo hi)) cs := rfl
@[simp] theorem v_truB (b : Bool) : tru (.bl b) cs = .ok b cs := rfl
@[simp] theorem v_lenT (xs : List Pv) : mLen [.tup xs] cs = .ok (.int xs.length) cs := rfl
@[simp] theorem v_lenL (xs : List Pv) : mLen [.lst xs] cs = .ok (.int xs.length) cs := rfl
@[simp] theorem v_abs (i : Int) : mAbs [.int i] cs = .ok (.int (if i < 0 then -i else i)) cs := rfl
@[simp] theorem v_intI (i : Int) : mInt [.int i] cs = .ok (.int i) cs := rfl
@[simp] theorem v_intB (b : Bool) : mInt [.bl b] cs = .ok (.int (if b then 1 else 0)) cs := rfl
@[simp] theorem v_sum (ns : List Int) : mSum [.lst (ns.map Pv.int)] cs = .ok (.int ns.sum) cs := by simp [mSum, asL, intsOf_map]
@[simp] theorem v_tupleT (xs : List Pv) : mTuple [.tup xs] cs = .ok (.tup xs) cs := rfl
@[simp] theorem v_tupleL (xs : List Pv) : mTuple [.lst xs] cs = .ok (.tup xs) cs := rfl
@[simp] theorem v_listT (xs : List Pv) : mList [.tup xs] cs = .ok (.lst xs) cs := rfl
@[simp] theorem v_listL (xs : List Pv) : mList [.lst xs] cs = .ok (.lst xs) cs := rfl
@[simp] theorem v_eqI (i j : Int) : eqD false (.int i) (.int j) cs = .ok (.bl (i == j)) cs := rfl
@[simp] theorem v_neI (i j : Int) : eqD true (.int i) (.int j) cs = .ok (.bl (!(i == j))) cs := rfl
end
theorem lcL_mapG {α : Type} {turn : Pv → Cells → Res (Option Pv)} {f h : α → Pv} {cs : Cells} : ∀ (L : List α), (∀ o ∈ L, turn (f o) cs = .ok (some (h o)) cs) → lcL turn (L.map f) cs = .ok (L.map h) cs
  | [], _ => rfl
  | v :: vs, q => by
    simp [lcL, q v List.mem_cons_self, lcL_mapG vs fun u hu => q u (List.mem_cons_of_mem _ hu)]
theorem fLc_map {α : Type} {src : FI} {g : FG} {c : FT} {e : FE} {vs : List Nat} {sl : Sl} {cs : Cells} {L : List α} {f h : α → Pv} (hs : src sl cs = .ok (.fz (L.map f)) cs) (hf : L.length ≤ 16777216) (ht : ∀ o ∈ L, lcTurn g c e (wipeS sl vs) (f o) cs = .ok (some (h o)) cs) : fLc src g c e vs sl cs = .ok (.lst (L.map h)) cs := by
  have hl : fits (L.map f).length = true := decide_eq_true (by rw [List.length_map]; exact hf)
  simp [fLc, hs, lcS]
  rw [guard_of (by simpa using hl), lcL_mapG L ht]
  rfl
end AL
set_option Elab.async false
set_option linter.all false
set_option autoImplicit false
set_option maxRecDepth 100000
set_option maxHeartbeats 4000000
namespace AL
open PySem PySem.Spec PyProof.Rows L2
theorem noCX {P : Program} {w : World} {outer : List Env} {H : Hp} {s s' : Shared} {e : Value} (h : L2.CX P w outer H s (fun _ _ _ => False) e s') : False := by
  obtain ⟨_, _, _, _, _, _, _, _, _, _, _, _, z⟩ := h
  exact z
def spXI (C : Addr) (fs : List Str) : Sp := fun vs H Q _ => ∃ a ws, vs = .ref a :: ws ∧ ws.length = fs.length ∧ H a = some (exo a C none) ∧
  ∀ d H2, H d = none → d ≠ a → H2 a = some (exo a C (some d)) → H2 d = some (exd d (fs.zip ws).reverse) → (∀ b, b ≠ a → b ≠ d → H2 b = H b) → Q .non H2
def tXI (K : PySem.W.Frag) : List (Str × Nat) → TS
  | [] => tNext
  | (f, i) :: r => tSeq (tOst K f (tVar 0) (tVar i)) (tXI K r)
def SlW (σ : L2.St) : List (Str × Nat) → List V → Prop
  | [], [] => True
  | (_, i) :: r, w :: ws => σ[i]? = some (some w) ∧ SlW σ r ws
  | _, _ => False
theorem slW_of (σ : L2.St) : ∀ (r : List (Str × Nat)) (ws : List V) (k : Nat), r.map (·.2) = List.range' k r.length → ws.length = r.length → (∀ j w, ws[j]? = some w → σ[k + j]? = some (some w)) → SlW σ r ws
  | [], [], _, _, _, _ => trivial
  | [], _ :: _, _, _, h, _ => by cases h
  | _ :: _, [], _, _, h, _ => by cases h
  | (f, i) :: r, w :: ws, k, h1, h2, h3 => by
    have e : i :: r.map (·.2) = k :: List.range' (k + 1) r.length := h1
    obtain ⟨e1, e2⟩ := List.cons.inj e
    subst e1
    refine ⟨h3 0 w rfl, slW_of σ r ws (i + 1) e2 (by simpa using h2) fun j w' hj => ?_⟩
    have := h3 (j + 1) w' (by simpa using hj)
    rwa [show i + (j + 1) = i + 1 + j by omega] at this
theorem tXI_old {K : PySem.W.Frag} {C a d : Addr} {D : Ends} {σ : L2.St} (T : OexC K C) (h0 : σ[0]? = some (some (.ref a))) (hda : d ≠ a) : ∀ (r : List (Str × Nat)) (ws : List V) (acc : List (Str × V)) (H : Hp), (∀ p ∈ r, PySem.W.findIn K (.ref C) p.1 = some none) → SlW σ r ws →
    H a = some (exo a C (some d)) → H d = some (exd d acc) → acc.length + r.length ≤ 900 →
    (∀ H2, H2 a = some (exo a C (some d)) → H2 d = some (exd d (((r.map (·.1)).zip ws).reverse ++ acc)) → (∀ b, b ≠ a → b ≠ d → H2 b = H b) → D.nx σ H2) → tXI K r D σ H
  | [], [], acc, H, _, _, ha, hd, _, q => q H ha hd fun _ _ _ => rfl
  | [], _ :: _, _, _, _, h, _, _, _, _ => h.elim
  | _ :: _, [], _, _, _, h, _, _, _, _ => h.elim
  | (f, i) :: r, w :: ws, acc, H, hno, ⟨hw, hs⟩, ha, hd, hl, q => by
    refine ⟨w, hw, _, h0, a, C, rfl, T, hno (f, i) List.mem_cons_self, .inr ⟨d, acc, ha, hd, by simp only [List.length_cons] at hl; omega, ?_⟩⟩
    refine tXI_old T h0 hda r ws ((f, w) :: acc) _ (fun p hp => hno p (List.mem_cons_of_mem _ hp)) hs (by rw [upd_ne (Ne.symm hda)]; exact ha) upd_same (by simp only [List.length_cons] at hl ⊢; omega) fun H2 e1 e2 e3 => ?_
    refine q H2 e1 ?_ fun b hb1 hb2 => by rw [e3 b hb1 hb2, upd_ne hb2]
    rw [e2]
    simp
theorem tXI_new {K : PySem.W.Frag} {C a : Addr} {D : Ends} {σ : L2.St} (T : OexC K C) (h0 : σ[0]? = some (some (.ref a))) (p : Str × Nat) (r : List (Str × Nat)) (ws : List V) (H : Hp) (hno : ∀ q ∈ p :: r, PySem.W.findIn K (.ref C) q.1 = some none) (hs : SlW σ (p :: r) ws)
    (ha : H a = some (exo a C none)) (hl : r.length ≤ 800)
    (q : ∀ d H2, H d = none → d ≠ a → H2 a = some (exo a C (some d)) → H2 d = some (exd d ((((p :: r).map (·.1)).zip ws).reverse)) → (∀ b, b ≠ a → b ≠ d → H2 b = H b) → D.nx σ H2) : tXI K (p :: r) D σ H := by
  obtain ⟨f, i⟩ := p
  cases ws with
  | nil => exact hs.elim
  | cons w ws =>
    obtain ⟨hw, hs⟩ := hs
    refine ⟨w, hw, _, h0, a, C, rfl, T, hno (f, i) List.mem_cons_self, .inl ⟨ha, fun d hd hda => ?_⟩⟩
    refine tXI_old (d := d) T h0 hda r ws [(f, w)] _ (fun p hp => hno p (List.mem_cons_of_mem _ hp)) hs upd_same (by rw [upd_ne hda, upd_same]) (by simp only [List.length_cons, List.length_nil]; omega) fun H2 e1 e2 e3 => ?_
    refine q d H2 hd hda e1 (by rw [e2]; simp) fun b hb1 hb2 => by rw [e3 b hb1 hb2, upd_ne hb1, upd_ne hb2]
section
variable {P : Program} {w : World} {K : PySem.W.Frag} {mg : Str → Option Value} {base : Heap} {x qual : Str} {st : Stmt} {f : Addr} {fd : FuncData} {ps : List Str} {C : Addr}
theorem xinit_ok {p : Str × Nat} {r : List (Str × Nat)} (T : OexC K C) (hno : ∀ q ∈ p :: r, PySem.W.findIn K (.ref C) q.1 = some none) (F : Fun K x qual st f fd) (S : FnScope ps ps (defScope st)) (hn : ps.length = r.length + 2) (hr : (p :: r).map (·.2) = List.range' 1 (p :: r).length) (hl : r.length ≤ 800)
    (hb : ∀ (cdv : Value) (A : Around) (outer : List Env) (s : Shared) (H : Hp) (E : XK), PSs (cxOf (L2.CX P w) P w K mg base ps qual (defScope st) f cdv A outer s H E) (defBody st) (tXI K (p :: r))) :
    FnOk P w K mg base (L2.CX P w) 1 f fd ps (spXI C ((p :: r).map (·.1))) := by
  refine F.okX S (fun vs H Q E h => ?_) (fun cdv A outer s H vs Q E _ h => ⟨_, hb cdv A outer s H E, ?_⟩)
  · obtain ⟨a, ws, rfl, h, _⟩ := h
    rw [List.length_cons, h, hn]; simp
  · obtain ⟨a, ws, rfl, h, ha, q⟩ := h
    refine tXI_new T rfl p r ws H hno (slW_of _ _ ws 1 hr (by simpa using h) fun j w' hj => ?_) ha hl fun d H2 h1 h2 h3 h4 h5 => q d H2 h1 h2 h3 h4 h5
    unfold L2.start
    have hj' := (List.getElem?_eq_some_iff.mp hj).1
    rw [List.getElem?_append_left (by simp; omega), List.getElem?_map, show 1 + j = j + 1 by omega, List.getElem?_cons_succ, hj]
    rfl
end
theorem RepVs.reverse {K : PySem.W.Frag} {mg : Str → Option Value} {U : Hp} {μ : List Addr} : ∀ {ps : List Pv} {vs : List V}, RepVs K mg U μ ps vs → RepVs K mg U μ ps.reverse vs.reverse
  | _, _, .nil => .nil
  | _, _, .cons h r => by
    rw [List.reverse_cons, List.reverse_cons]
    exact (RepVs.reverse r).append (.cons h .nil)
def sRaise (c : Str) (names : List Str) (t : FA) : FS := fun sl cs => (t sl cs).go sl fun vs cs1 => if vs.length = names.length then .exn c (names.zip vs).reverse sl cs1 else .bad
section
variable {X : Cx} {W : WE} {t : FA} {C fI : Addr} {k : Nat} {fd : FuncData} {ps names : List Str} {x : Str} {e : Expr} {es : List Expr} {p pos pos2 : Pos}
theorem s_raise (hc : X.calm = true) (T : OexC X.K C) (iC : PySem.W.findIn X.K (.ref C) "__init__" = some (some (.ref fI))) (tI : PySem.W.typeIn X.K (.ref fI) = some (.type "function"))
    (F1 : FnOk X.prog X.w X.K X.mg X.base (L2.CX X.prog X.w) k fI fd ps (spXI C names)) (hr : Room (k + 1) X.A) (hb : Binds X.K fd ps []) (hm : X.mg x = some (.ref C)) (tk : Takes X W.w) (ha : PA X (e :: es) (rdA X.K X.mg W t)) (hn : names.length ≤ 100 := by decide) (hg : Gl X x := by rfl)
    (hdb : (x == ("__debug__" : Str)) = false := by decide) (he : starEach (e :: es) X.env = (false, eval e X.env) :: starEach es X.env := by rfl) (hpl : (backTo pos (starEach es X.env)).any (·.1) = false := by rfl) :
    PS X (.Raise (some (.Call (.Name x p) (e :: es) [] pos)) none pos2) (rdS X.K X.mg W (sRaise x names t)) := by
  refine PS.le (ps_raise hc tk (pmk_oex T iC tI F1 hr hb .nil (fun _ _ _ _ _ _ _ h => (noCX h).elim) hg hm ha hdb he hpl)) fun D σ H q => ?_
  obtain ⟨sl, cs, μ, U, r0, rs, q⟩ := q
  refine ⟨sl, cs, μ, U, r0, rs, OutS.seq q rs fun vs cs1 ws U1 H1 μ1 _ g1 r1 p1 h1 => ?_⟩
  split at h1
  · rename_i hl
    have hl2 : ws.length = names.length := by rw [← p1.length]; exact hl
    refine ⟨by omega, fun a ha => ⟨a, ws, by rw [List.append_nil], hl2, upd_same, fun d H2 hd hda e1 e2 e3 => ⟨rfl, d, _, e1, e2, ?_, ?_⟩⟩⟩
    · rw [upd_ne hda] at hd; exact hd
    · rw [upd_ne hda] at hd
      have eH : upd (del H2 a) d (.xd (names.zip ws).reverse) = upd H1 d (.xd (names.zip ws).reverse) := by
        funext b
        by_cases hbd : b = d
        · subst hbd; rw [upd_same, upd_same]
        · rw [upd_ne hbd, upd_ne hbd]
          by_cases hba : b = a
          · subst hba; rw [del_same, ha]
          · rw [del_ne hba, e3 b hba hbd, upd_ne hba]
      rw [eH]
      obtain ⟨r2, g2⟩ := r1.freeze (o := .xd (names.zip ws).reverse) hd
      refine h1 C (some d) σ _ _ _ g2 r2 ((rs.mono g1).mono g2) hm (.inr ⟨d, _, rfl, upd_same, ?_, ?_⟩)
      · rw [List.map_reverse, List.map_reverse, List.map_fst_zip (by omega), List.map_fst_zip (by omega)]
      · rw [List.map_reverse, List.map_reverse, List.map_snd_zip (by omega), List.map_snd_zip (by omega)]
        exact (p1.mono g2.vv g2.mm).reverse
  · exact h1.elim
end
def goneS (i : Nat) : RS → RS
  | .nx sl cs => .nx (sl.set i none) cs
  | .bk sl cs => .bk (sl.set i none) cs
  | .ct sl cs => .ct (sl.set i none) cs
  | .rt v cs => .rt v cs
  | _ => .bad
def sTry (tab : List (Str × Bool)) (i : Nat) (body : FS) (su : Str → List (Str × Pv) → FS) : FS := fun sl cs => match body sl cs with
  | .exn c fs sl1 cs1 => match tab.lookup c with
    | some true => goneS i (su c fs (sl1.set i none) cs1)
    | some false => .exn c fs sl1 cs1
    | none => .bad
  | r => r
/-- what the classes of tab say of an except clause of cx -/
def ExmT (K : PySem.W.Frag) (mg : Str → Option Value) (cx : Value) (tab : List (Str × Bool)) : Prop := ∀ c b, tab.lookup c = some b → ∀ C, mg c = some (.ref C) → PySem.W.exmOne K (.ref C) cx = some b
def fXf (tab : List Str) (c : Str) (fs : List (Str × Pv)) (i : Nat) (f : Str) : FE := fun sl cs => match sl[i]? with
  | some none => if tab.contains c = true then match fs.lookup f with
      | some v => .ok v cs
      | none => .bad
    else .bad
  | _ => .bad
def XfT (K : PySem.W.Frag) (mg : Str → Option Value) (f : Str) (tab : List Str) : Prop := ∀ c, tab.contains c = true → ∀ C, mg c = some (.ref C) → XfC K C ∧ PySem.W.findIn K (.ref C) f = some none
def fXis (tab : List (Str × Bool)) (c : Str) (i : Nat) : FE := fun sl cs => match sl[i]? with
  | some none => match tab.lookup c with
    | some b => .ok (.bl b) cs
    | none => .bad
  | _ => .bad
theorem repVs_lookup {K : PySem.W.Frag} {mg : Str → Option Value} {U : Hp} {μ : List Addr} {f : Str} : ∀ {fs : List (Str × Pv)} {ws : List (Str × V)} {p : Pv}, fs.map (·.1) = ws.map (·.1) → RepVs K mg U μ (fs.map (·.2)) (ws.map (·.2)) → fs.lookup f = some p → ∃ v, ws.lookup f = some v ∧ RepV K mg U μ p v
  | [], _, _, _, _, h => by cases h
  | _ :: _, [], _, h, _, _ => by cases h
  | (g, q) :: fs, (g', v) :: ws, p, h1, h2, h3 => by
    obtain ⟨e1, e2⟩ := List.cons.inj h1
    have e1 : g = g' := e1
    subst e1
    cases h2 with
    | cons r1 r2 =>
      by_cases hg : f = g
      · subst hg
        have h3 : (match f == f with | true => some q | false => fs.lookup f) = some p := h3
        rw [beq_self_eq_true] at h3
        cases h3
        exact ⟨v, by simp [List.lookup], r1⟩
      · have hb : (f == g) = false := by simpa using hg
        have h3 : (match f == g with | true => some q | false => fs.lookup f) = some p := h3
        rw [hb] at h3
        obtain ⟨v', h4, h5⟩ := repVs_lookup e2 r2 h3
        exact ⟨v', by simp [List.lookup, hb]; exact h4, h5⟩
section
variable {X : Cx} {a : Addr} {oe : Obj} {pn : List (Addr × Obj)} {C : Addr} {d : Option Addr} {c : Str} {fs : List (Str × Pv)} {i : Nat} {n f : Str} {p pos : Pos} {w : WX}
theorem b_xf {tab : List Str} (hT : XfT X.K X.mg f tab) (hz : Zc (.ref C) d oe) (hf : ∃ vs, oe.data = .fields vs) (hm : X.mg c = some (.ref C)) (hN : X.N[i]? = some n := by rfl) (hv : Vis X.env.scope n := by first | exact Or.inl rfl | exact Or.inr (Or.inl rfl) | exact Or.inr (Or.inr rfl))
    (hd : (n == ("__debug__" : Str)) = false := by decide) (hcd : (n == ("__classdict__" : Str)) = false := by decide) (hb : attributeBase (.Name n p) f X.env (eval (.Name n p) X.env) = eval (.Name n p) X.env := by rfl) :
    PE (X.suite a ((a, oe) :: pn)) (.Attribute (.Name n p) f pos) (rdE X.K X.mg ⟨w, some ⟨i, a, .ref C, fs, d⟩⟩ (fXf tab c fs i f)) := by
  refine ⟨fun pins s σ H Q I h => ?_⟩
  obtain ⟨sl, cs, μ, U, r0, rs, h⟩ := h
  unfold fXf at h
  split at h
  · rename_i hsl
    split at h
    · rename_i htab
      obtain ⟨hσ, hx⟩ := rs.exc _ rfl hsl
      split at h
      · rename_i v ev
        rcases hx with ⟨e1, e2⟩ | ⟨da, ws, e1, e2, e3, e4⟩
        · have e1 : fs = [] := e1
          subst e1; cases ev
        · obtain ⟨u, hu, ru⟩ := repVs_lookup e3 e4 ev
          obtain ⟨hxf, hno⟩ := hT c htab C hm
          refine (pe_xf (te := tVar i) hxf hno hz hf (pe_var hN hv hd hcd) hb).run pins s σ H Q I ⟨_, hσ, rfl, rfl, da, ws, u, e1, r0.vh _ _ e2, hu, ?_⟩
          exact out_val r0 ru h
      · exact h.elim
    · exact h.elim
  · exact h.elim
end
/-- what the class D must say, so that isinstance asks its instances rightly -/
structure ExcK (K : PySem.W.Frag) (D : Addr) : Prop where
  hc : (PySem.W.clsIn K D).isSome = true
  hg : PySem.W.findIn K (.ref D) "__getattribute__" = some (some (.builtin "BaseException.__getattribute__"))
  hk : PySem.W.findIn K (.ref D) "__getattr__" = some none
  hs : PySem.W.subIn K (.ref D) (.type "BaseException") = some true
  ha : PySem.W.findIn K (.ref D) "__class__" = some (some (.builtin "object.__class__"))
  hn : PySem.W.specialIn K (.builtin "object.__class__") "__get__" = some (some (.builtin "getset_descriptor.__get__"))
  ht : PySem.W.takesIn K (.builtin "object.__class__") = some true
  hm : PySem.W.mroIn K D (.type "object") = some true
def XisT (K : PySem.W.Frag) (mg : Str → Option Value) (cv : Value) (tab : List (Str × Bool)) : Prop := ∀ c b, tab.lookup c = some b → ∀ C, mg c = some (.ref C) → ExcK K C ∧ PySem.W.kitOne K (.ref C) cv = some b
def rIsX (K : PySem.W.Frag) (D a : Addr) (d : Option Addr) : List V → Hp → VK → Prop := fun xs H Q => ∃ (c : V) (cv : Value) (b : Bool), xs = [.ref a, c] ∧ (∀ u, RelV c u → u = cv) ∧ PySem.W.kitOne K (.ref D) cv = some b ∧ (d = none ∨ ∃ dd fs, d = some dd ∧ H dd = some (.xd fs)) ∧ Q (.bl b) H
theorem call_isX {X : Cx} {a D : Addr} {d : Option Addr} {oe : Obj} {pn : List (Addr × Obj)} (C : ExcK X.K D) (hz : Zc (.ref D) d oe) (hf : ∃ vs, oe.data = .fields vs) : CallR (X.suite a ((a, oe) :: pn)) (.builtin "isinstance") (rIsX X.K D a d) := by
  intro pins s σ H xs us Q I r h
  obtain ⟨c, cv, b, rfl, hcv, e, hd, q⟩ := h
  cases r with
  | cons rx rr =>
    cases rr with
    | cons rt rr =>
      cases rr
      cases rx
      have ec := hcv _ rt
      subst ec
      obtain ⟨hget, _⟩ := I.pin (a, oe) (List.mem_append.mpr (.inl List.mem_cons_self))
      obtain ⟨vs, hv⟩ := hf
      obtain ⟨od, J⟩ : ∃ od, PySem.W.InstAt s.heap a oe D od := by
        rcases hd with rfl | ⟨dd, fs, rfl, hdd⟩
        · exact ⟨none, hget, hz.1, by unfold PySem.W.notCls; rw [hv] <;> rfl, by rw [hz.2]; trivial⟩
        · have hx : ObjOk X.prog X.w H s.heap dd (.xd fs) := I.hok dd _ hdd
          obtain ⟨mA, hns, hr⟩ := hx
          obtain ⟨od, ho, hl⟩ := lookIn_ns hns
          exact ⟨some od, hget, hz.1, by unfold PySem.W.notCls; rw [hv] <;> rfl, by rw [hz.2]; exact ho⟩
      exact PySem.W.kia_one (PySem.W.kitx_exc (od := od) C.hc C.hg C.hk C.hs C.ha C.hn C.ht C.hm) I.kIn J e (fun z => nomatch z) fun tk => ⟨.bl b, H, I.kept (t' := tk) fun _ _ z => z, rfl, q⟩
section
variable {X : Cx} {a : Addr} {oe : Obj} {pn : List (Addr × Obj)} {C : Addr} {d : Option Addr} {c : Str} {fs : List (Str × Pv)} {i : Nat} {n : Str} {p p2 pos : Pos} {w : WX} {te : Expr}
theorem b_xis {tab : List (Str × Bool)} {tv : V} {cv : Value} (hT : XisT X.K X.mg cv tab) (hz : Zc (.ref C) d oe) (hf : ∃ vs, oe.data = .fields vs) (hm : X.mg c = some (.ref C)) (hcv : ∀ u, RelV tv u → u = cv) (ht : PE (X.suite a ((a, oe) :: pn)) te (tC tv)) (hmi : X.mg "isinstance" = none)
    (hN : X.N[i]? = some n := by rfl) (hv : Vis X.env.scope n := by first | exact Or.inl rfl | exact Or.inr (Or.inl rfl) | exact Or.inr (Or.inr rfl))
    (hd : (n == ("__debug__" : Str)) = false := by decide) (hcd : (n == ("__classdict__" : Str)) = false := by decide) (hg : Gl X "isinstance" := by rfl) 
    (he : starEach [.Name n p, te] X.env = (false, eval (.Name n p) X.env) :: starEach [te] X.env := by rfl) (he2 : starEach [te] X.env = (false, eval te X.env) :: starEach [] X.env := by rfl) (hpl : (backTo pos (starEach [te] X.env)).any (·.1) = false := by rfl) :
    PE (X.suite a ((a, oe) :: pn)) (.Call (.Name "isinstance" p2) [.Name n p, te] [] pos) (rdE X.K X.mg ⟨w, some ⟨i, a, .ref C, fs, d⟩⟩ (fXis tab c i)) := by
  refine ⟨fun pins s σ H Q I h => ?_⟩
  obtain ⟨sl, cs, μ, U, r0, rs, h⟩ := h
  unfold fXis at h
  split at h
  · rename_i hsl
    split at h
    · rename_i b htab
      obtain ⟨hσ, hx⟩ := rs.exc _ rfl hsl
      obtain ⟨hxf, hno⟩ := hT c b htab C hm
      refine (pe_callB (X := X.suite a ((a, oe) :: pn)) (call_isX hxf hz hf) hg hmi (by decide +kernel) (pa_cons (pe_var (i := i) hN hv hd hcd) (pa_cons ht pa_nil he2) he) (by decide) (by decide) he hpl).run pins s σ H Q I ?_
      refine ⟨_, hσ, tv, cv, b, rfl, hcv, hno, ?_, out_val r0 (.bl _) h⟩
      rcases hx with ⟨e1, e2⟩ | ⟨da, ws, e1, e2, e3, e4⟩
      · exact .inl e2
      · exact .inr ⟨da, ws, e1, r0.vh _ _ e2⟩
    · exact h.elim
  · exact h.elim
end
end AL
set_option Elab.async false
set_option linter.all false
set_option autoImplicit false
set_option maxRecDepth 100000
set_option maxHeartbeats 4000000
namespace AL
open PySem PySem.Spec PyProof.Rows L2
/-- the text of these signs -/
@[simp] theorem tl_S (l : List Nat) : TL.tl (S l) = l := rfl
theorem S_inj {a b : List Nat} (h : S a = S b) : a = b := by
  have := congrArg TL.tl h
  exact this
@[simp] theorem S_length (l : List Nat) : (S l).length = l.length := by rw [TL.len_tl]; rfl
theorem S_append (a b : List Nat) : S a ++ S b = S (a ++ b) := TL.ext_tl (TL.tl_append _ _)
theorem S_beq (a b : List Nat) : (S a == S b) = (a == b) := by
  by_cases h : a = b
  · subst h; simp
  · have : S a ≠ S b := fun e => h (S_inj e)
    rw [beq_eq_false_iff_ne.mpr this, beq_eq_false_iff_ne.mpr h]
def flatP : Pv → Bool
  | .non | .bl _ | .int _ | .str _ => true
  | _ => false
def eqP : Pv → Pv → Bool
  | .non, .non => true
  | .bl a, .bl b => a == b
  | .bl a, .int b => (if a then 1 else 0) == b
  | .int a, .bl b => a == (if b then 1 else 0)
  | .int a, .int b => a == b
  | .str a, .str b => a == b
  | _, _ => false
def oInG (neg : Bool) : F2 := fun x y cs => match x, y with
  | .str i, .str j => match TL.tl i with
    | [c] => .ok (.bl (if neg then !decide (c ∈ TL.tl j) else decide (c ∈ TL.tl j))) cs
    | _ => .bad
  | x, y => match seqOf cs y with
    | some ys => guard_ (flatP x && ys.all flatP) (.ok (.bl (if neg then !ys.any (fun y => eqP y x) else ys.any fun y => eqP y x)) cs)
    | none => .bad
abbrev oIn : F2 := oInG false
abbrev oNotIn : F2 := oInG true
section
variable {K : PySem.W.Frag} {mg : Str → Option Value} {U : Hp} {μ : List Addr}
theorem flat_rep {p : Pv} {v : V} (h : RepV K mg U μ p v) (f : flatP p = true) : flatV v = true := by
  cases h <;> first | rfl | cases f
theorem flat_reps : ∀ {ps : List Pv} {vs : List V}, RepVs K mg U μ ps vs → ps.all flatP = true → vs.all flatV = true
  | _, _, .nil, _ => rfl
  | _, _, .cons h r, f => by
    rw [List.all_cons, Bool.and_eq_true] at f ⊢
    exact ⟨flat_rep h f.1, flat_reps r f.2⟩
theorem eq_rep {p q : Pv} {v w : V} (h : RepV K mg U μ p v) (g : RepV K mg U μ q w) (f : flatP p = true) (f2 : flatP q = true) : eqV v w = eqP p q := by
  cases h with
  | non => cases g <;> first | rfl | cases f2
  | bl b => cases g <;> first | rfl | cases f2
  | int i => cases g <;> first | rfl | cases f2
  | str x => cases g <;> first | rfl | cases f2
  | _ => cases f
theorem any_rep {q : Pv} {w : V} (g : RepV K mg U μ q w) (f2 : flatP q = true) : ∀ {ps : List Pv} {vs : List V}, RepVs K mg U μ ps vs → ps.all flatP = true → inV w vs = ps.any fun y => eqP y q
  | _, _, .nil, _ => rfl
  | _, _, .cons h r, f => by
    rw [List.all_cons, Bool.and_eq_true] at f
    show (eqV _ w || inV w _) = (eqP _ q || _)
    rw [eq_rep h g f.1 f2, any_rep g f2 r f.2]
end
def rInSgn (neg : Bool) : R2 := fun x y H Q => ∃ (c : Nat) (z : Str), x = .str ⟨#[c]⟩ ∧ y = .str z ∧ Q (.bl (if neg then !decide (c ∈ z.cps.toList) else decide (c ∈ z.cps.toList))) H
theorem op_inA {X : Cx} : OpR X (compareOp .In) (fun x y H Q => rInSgn false x y H Q ∨ rIn X.K false x y H Q) := OpR.or op_in_sign op_in_seq
theorem op_notInA {X : Cx} : OpR X (compareOp .NotIn) (fun x y H Q => rInSgn true x y H Q ∨ rIn X.K true x y H Q) := OpR.or op_notIn_sign op_notIn_seq
theorem ok_in {K : PySem.W.Frag} {mg : Str → Option Value} {neg : Bool} : Ok2 K mg (oInG neg) (fun x y H Q => rInSgn neg x y H Q ∨ rIn K neg x y H Q) := by
  intro E x y cs v w U H μ Q r hx hy h
  unfold oInG at h
  split at h
  · cases hx; cases hy
    split at h
    · rename_i c hc
      refine .inl ⟨c, _, ?_, rfl, out_val r (.bl _) h⟩
      refine congrArg V.str (TL.ext_tl ?_)
      exact hc
    · exact h.elim
  · split at h
    · rename_i ys ey
      obtain ⟨hf, h⟩ := out_guard h
      obtain ⟨f1, f2⟩ := Bool.and_eq_true_iff.mp hf
      obtain ⟨a, ws, rfl, s, q⟩ := seqOf_ok r hy ey
      refine .inr ⟨a, ws, rfl, s, flat_rep hx f1, flat_reps q f2, ?_⟩
      rw [any_rep hx f1 q f2]
      exact out_val r (.bl _) h
    · exact h.elim
def repS (x : List Nat) (n : Nat) : List Nat := (List.replicate n x).flatten
def oMulS : F2 := fun x y cs => match x, y with
  | .str a, .int n => guard_ (decide (-1000000 ≤ n) && decide (n ≤ 1000000) && fits (a.length * n.toNat)) (.ok (.str (S (repS (TL.tl a) n.toNat))) cs)
  | _, _ => .bad
def strsOf : List Pv → Option (List Str)
  | [] => some []
  | .str x :: r => (strsOf r).map (x :: ·)
  | _ => none
theorem strsOf_map : ∀ (ns : List Str), strsOf (ns.map Pv.str) = some ns
  | [] => rfl
  | n :: ns => by
    show (strsOf (ns.map Pv.str)).map (n :: ·) = _
    rw [strsOf_map ns]; rfl
def mStarts : FM := fun o vs cs => match o, vs with
  | .str a, [.str b] => .ok (.bl (TL.pre (TL.tl b) (TL.tl a))) cs
  | _, _ => .bad
def intL : Int → List Nat
  | .ofNat n => TL.numL n
  | .negSucc n => 45 :: TL.numL (n + 1)
theorem intL_S (i : Int) : (toString i : Str) = S (intL i) := by
  cases i with
  | ofNat n => exact TL.ext_tl (TL.tl_num n)
  | negSucc n =>
    refine TL.ext_tl ?_
    have e : toString (Int.negSucc n) = "-" ++ toString (n + 1) := rfl
    show TL.tl (Str.ofString (toString (Int.negSucc n))) = 45 :: TL.numL (n + 1)
    rw [TL.tl_ofString, e, String.toList_append, List.map_append]
    have e2 := TL.tl_num (n + 1)
    rw [TL.tl_ofString] at e2
    have e3 : toString (((n + 1 : Nat) : Int)) = toString (n + 1) := rfl
    rw [e3] at e2
    rw [e2]
    rfl
def mStr : FN := fun vs cs => match vs with
  | [.int i] => guard_ (decide (i.natAbs.log2 < 1920)) (.ok (.str (S (intL i))) cs)
  | [.str a] => .ok (.str a) cs
  | _ => .bad
theorem call_strA {X : Cx} : CallR X (.type "str") (fun xs H Q => (∃ i, xs = [.int i] ∧ i.natAbs.log2 < 1920 ∧ Q (.str (toString i)) H) ∨ ∃ a, xs = [.str a] ∧ Q (.str a) H) := CallR.or call_str_int SkE.call_str_str
theorem ok_str {K : PySem.W.Frag} {mg : Str → Option Value} : OkC K mg mStr (fun xs H Q => (∃ i, xs = [.int i] ∧ i.natAbs.log2 < 1920 ∧ Q (.str (toString i)) H) ∨ ∃ a, xs = [.str a] ∧ Q (.str a) H) := by
  intro E ps cs vs U H μ Q r hx h
  unfold mStr at h
  split at h
  · obtain ⟨hz, h⟩ := out_guard h
    cases hx with
    | cons h1 h2 =>
      cases h2; cases h1
      refine .inl ⟨_, rfl, of_decide_eq_true hz, ?_⟩
      rw [intL_S]
      exact out_val r (.str _) h
  · cases hx with
    | cons h1 h2 =>
      cases h2; cases h1
      exact .inr ⟨_, rfl, out_val r (.str _) h⟩
  · exact h.elim
def mIntA : FN := fun vs cs => match vs with
  | [.str a] => match PySem.intText? a with
    | some n => guard_ (decide (a.length ≤ 640)) (.ok (.int n) cs)
    | none => .bad
  | vs => mInt vs cs
theorem call_intA {X : Cx} : CallR X (.type "int") (fun xs H Q => (∃ a n, xs = [.str a] ∧ PySem.intText? a = some n ∧ a.length ≤ 640 ∧ Q (.int n) H) ∨ ((∃ i, xs = [.int i] ∧ Q (.int i) H) ∨ ∃ k, xs = [.bl k] ∧ Q (.int (if k then 1 else 0)) H)) := CallR.or call_int_str call_int1
theorem ok_intA {K : PySem.W.Frag} {mg : Str → Option Value} : OkC K mg mIntA (fun xs H Q => (∃ a n, xs = [.str a] ∧ PySem.intText? a = some n ∧ a.length ≤ 640 ∧ Q (.int n) H) ∨ ((∃ i, xs = [.int i] ∧ Q (.int i) H) ∨ ∃ k, xs = [.bl k] ∧ Q (.int (if k then 1 else 0)) H)) := by
  intro E ps cs vs U H μ Q r hx h
  unfold mIntA at h
  split at h
  · split at h
    · rename_i n hn
      obtain ⟨hz, h⟩ := out_guard h
      cases hx with
      | cons h1 h2 =>
        cases h2; cases h1
        exact .inl ⟨_, n, rfl, hn, of_decide_eq_true hz, out_val r (.int _) h⟩
    · exact h.elim
  · exact .inr (ok_int E _ cs _ U H μ Q r hx h)
def boolsOf : List Pv → Option (List Bool)
  | [] => some []
  | .bl x :: r => (boolsOf r).map (x :: ·)
  | _ => none
theorem boolsOf_map : ∀ (ns : List Bool), boolsOf (ns.map Pv.bl) = some ns
  | [] => rfl
  | n :: ns => by
    show (boolsOf (ns.map Pv.bl)).map (n :: ·) = _
    rw [boolsOf_map ns]; rfl
theorem boolsOf_eq : ∀ {ps : List Pv} {ns : List Bool}, boolsOf ps = some ns → ps = ns.map Pv.bl
  | [], ns, h => by cases h; rfl
  | .bl i :: r, ns, h => by
    obtain ⟨ms, h1, h2⟩ := Option.map_eq_some_iff.mp h
    subst h2
    rw [boolsOf_eq h1]; rfl
  | .non :: _, _, h => by cases h
  | .str _ :: _, _, h => by cases h
  | .int _ :: _, _, h => by cases h
  | .tup _ :: _, _, h => by cases h
  | .lst _ :: _, _, h => by cases h
  | .ref _ :: _, _, h => by cases h
  | .obj _ _ :: _, _, h => by cases h
  | .glo _ :: _, _, h => by cases h
  | .ty _ :: _, _, h => by cases h
  | .dk _ :: _, _, h => by cases h
  | .dt _ :: _, _, h => by cases h
  | .zk _ :: _, _, h => by cases h
  | .zt _ :: _, _, h => by cases h
theorem reps_bools {K : PySem.W.Frag} {mg : Str → Option Value} {U : Hp} {μ : List Addr} : ∀ {ns : List Bool} {vs : List V}, RepVs K mg U μ (ns.map Pv.bl) vs → vs = ns.map V.bl
  | [], _, .nil => rfl
  | n :: ns, _, .cons (.bl _) r => by rw [List.map_cons, reps_bools r]
def mAll : FN := fun vs cs => match vs with
  | [x] => match asL cs x with
    | some xs => match boolsOf xs with
      | some bs => .ok (.bl (bs.all id)) cs
      | none => .bad
    | none => .bad
  | _ => .bad
theorem ok_all {K : PySem.W.Frag} {mg : Str → Option Value} : OkC K mg mAll (rAll K) := by
  intro E ps cs vs U H μ Q r hx h
  unfold mAll at h
  split at h
  · cases hx with
    | cons h1 h2 =>
      cases h2
      split at h
      · rename_i xs e
        split at h
        · rename_i bs eb
          obtain ⟨a, ws, rfl, s, q⟩ := asL_ok r h1 e
          rw [boolsOf_eq eb] at q
          rw [reps_bools q] at s
          exact ⟨a, bs, rfl, s, out_val r (.bl _) h⟩
        · exact h.elim
      · exact h.elim
  · exact h.elim
def fRev (f : FE) : FE := fun sl cs => (f sl cs).bind fun v cs1 => match asL cs1 v with
  | some xs => .ok (.lst xs.reverse) cs1
  | none => .bad
def fOrT (f g : FE) : FE := fun sl cs => (f sl cs).bind fun v cs1 => (tru v cs1).bind fun b cs2 => if b = true then .ok v cs2 else g sl cs2
section
variable {X : Cx} {W : WE} {f g : FE} {a b e : Expr} {rest : List Expr} {pos p1 p2 p3 : Pos} {k : Nat}
theorem b_glob {x : Str} {p : Pv} {v : V} {u : Value} (hm : X.mg x = some u) (hv : RelV v u) (hp : ∀ U μ, RepV X.K X.mg U μ p v) (hg : Gl X x := by rfl) (hd : (x == ("__debug__" : Str)) = false := by decide) : PE X (.Name x pos) (rdE X.K X.mg W (fCon p)) :=
  PE.le (pe_glob hg hm hv hd) fun σ H Q h => rd_con hp σ H Q h
theorem b_globI {x : Str} {i : Int} {u : Value} (hm : X.mg x = some u) (hv : RelV (.int i) u) (hg : Gl X x := by rfl) (hd : (x == ("__debug__" : Str)) = false := by decide) : PE X (.Name x pos) (rdE X.K X.mg W (fCon (.int i))) := b_glob hm hv (fun _ _ => .int i) hg hd
theorem b_globS {x z : Str} {u : Value} (hm : X.mg x = some u) (hv : RelV (.str z) u) (hg : Gl X x := by rfl) (hd : (x == ("__debug__" : Str)) = false := by decide) : PE X (.Name x pos) (rdE X.K X.mg W (fCon (.str z))) := b_glob hm hv (fun _ _ => .str z) hg hd
end
def iSeq2 (f : FE) : FI := fun sl cs => (f sl cs).bind fun v cs1 => match v with
  | .str x => .ok (.fz ((TL.tl x).map fun c => .str (S [c]))) cs1
  | _ => .bad
theorem it_str {K : PySem.W.Frag} {mg : Str → Option Value} {U0 : Hp} {μ0 : List Addr} {x : Str} : ItOk K mg (Src.fz ((TL.tl x).map fun c => .str (S [c]))).it (Its x) U0 μ0 := by
  intro U H μ cs i e m r
  show match (if i ≤ ((TL.tl x).map fun c => Pv.str (S [c])).length then some ((TL.tl x).map fun c => Pv.str (S [c]))[i]? else none) with | some (some p) => _ | some none => _ | none => _
  by_cases hle : i ≤ ((TL.tl x).map fun c => Pv.str (S [c])).length
  case neg => rw [if_neg hle]; trivial
  rw [if_pos hle]
  have hs : x.cps.size = (TL.tl x).length := by simp [TL.tl]
  by_cases hi : i < (TL.tl x).length
  · rw [List.getElem?_map, List.getElem?_eq_getElem hi]
    refine ⟨by show i < x.cps.size; omega, fun v H' y => ?_⟩
    obtain ⟨rfl, c, hc, rfl⟩ := y
    have : (TL.tl x)[i] = c := by
      have h2 : (TL.tl x)[i]? = some c := by simpa [TL.tl] using hc
      rw [List.getElem?_eq_getElem hi] at h2
      exact Option.some.inj h2
    rw [this]
    exact ⟨U, Gr.refl, r, .str _⟩
  · rw [List.getElem?_eq_none (by rw [List.length_map]; omega)]
    show x.cps.size ≤ i
    omega
section
variable {X : Cx} {W : WE} {f : FE} {e tg : Expr} {p pos tpos : Pos} {elts : List Expr} {kk : Nat}
theorem i_str (he : PE X e (rdE X.K X.mg W f)) : PI X tg e (rdI X.K X.mg W (iSeq2 f)) := PI.le (pi_str he) fun σ H R q => by
  obtain ⟨sl, cs, μ, U, r0, rs, q⟩ := q
  refine ⟨sl, cs, μ, U, r0, rs, Out.seq q fun v cs1 w U1 H1 μ1 _ g1 r1 p1 h1 => ?_⟩
  split at h1
  · cases p1
    exact ⟨_, rfl, h1 _ _ _ _ Gr.refl r1 it_str⟩
  · exact h1.elim
/-- pairs of place and item -/
def enumL (n : Nat) (xs : List Pv) : List Pv := xs.mapIdx fun i x => .tup [.int ((n + i : Nat) : Int), x]
def enumIt (v : Pv) : Nat → Cells → Option (Option Pv) := fun i cs => match asL cs v with
  | some xs => (Src.fz (enumL 0 xs)).it i cs
  | none => none
def iEnum (f : FE) : FI := fun sl cs => (f sl cs).bind fun v cs1 => match asL cs1 v with
  | some xs => if isFz v = true then .ok (.fz (enumL 0 xs)) cs1 else .ok (.lv (enumIt v)) cs1
  | none => .bad
theorem it_enum {K : PySem.W.Frag} {mg : Str → Option Value} {U0 : Hp} {μ0 : List Addr} {x : Pv} {a : Addr}
    (h1 : ∀ U' H' μ' cs' ys, Ex U0 U' → μ0 <+: μ' → Rel0 K mg cs' μ' U' H' → asL cs' x = some ys → ∃ ws, SqL K H' a ws ∧ RepVs K mg U' μ' ys ws) : ItOk K mg (enumIt x) (Ite K a) U0 μ0 := by
  intro U H μ cs i e m r
  unfold enumIt
  cases ex : asL cs x with
  | none => trivial
  | some xs =>
    obtain ⟨vs, s1, q1⟩ := h1 U H μ cs xs e m r ex
    have hl : (enumL 0 xs).length = vs.length := by unfold enumL; rw [List.length_mapIdx, q1.length]
    show match (if i ≤ (enumL 0 xs).length then some (enumL 0 xs)[i]? else none) with | some (some p) => _ | some none => _ | none => _
    by_cases hle : i ≤ (enumL 0 xs).length
    case neg => rw [if_neg hle]; trivial
    rw [if_pos hle]
    cases hp : xs[i]? with
    | none =>
      have hn : (enumL 0 xs)[i]? = none := by unfold enumL; rw [List.getElem?_mapIdx, hp]; rfl
      rw [hn]
      exact ⟨vs, s1, by have := List.getElem?_eq_none_iff.mp hn; omega⟩
    | some y =>
      have hn : (enumL 0 xs)[i]? = some (.tup [.int ((0 + i : Nat) : Int), y]) := by unfold enumL; rw [List.getElem?_mapIdx, hp]; rfl
      rw [hn]
      obtain ⟨v, a1, a2⟩ := q1.at hp
      refine ⟨⟨vs, v, s1, a1⟩, fun z H' yl => ?_⟩
      obtain ⟨T, z1, rfl, hT, rfl, f1⟩ := yl
      have e1 : z1 = v := Option.some.inj ((f1 vs s1).symm.trans a1)
      subst e1
      obtain ⟨r1, g1⟩ := r.freeze (o := .tup [.int (i : Nat), z1]) hT
      refine ⟨_, g1, r1, .tup upd_same (.cons ?_ (.cons (a2.mono g1.vv g1.mm) .nil))⟩
      rw [Nat.zero_add]
      exact .int _
theorem asL_X {K : PySem.W.Frag} {mg : Str → Option Value} {U H : Hp} {μ : List Addr} {cs : Cells} {x : Pv} {v : V} {xs : List Pv} (r : Rel0 K mg cs μ U H) (h : RepV K mg U μ x v) (e : asL cs x = some xs) :
    ∃ a, v = .ref a ∧ ∀ U' H' μ' cs' ys, Ex U U' → μ <+: μ' → Rel0 K mg cs' μ' U' H' → asL cs' x = some ys → ∃ ws, SqL K H' a ws ∧ RepVs K mg U' μ' ys ws := by
  cases h with
  | lst s q => exact ⟨_, rfl, fun U' H' μ' cs' ys ex m r' e' => by cases e'; exact ⟨_, r'.vh.l (ex.l s), q.mono ex m⟩⟩
  | ref hm => exact ⟨_, rfl, fun U' H' μ' cs' ys ex m r' e' => by
      obtain ⟨a, ws, e1, s, q⟩ := asL_ok r' (.ref (pre_get m hm)) e'
      cases e1
      exact ⟨ws, s, q⟩⟩
  | _ => cases e
theorem asL_fz {cs cs' : Cells} {p : Pv} (h : isFz p = true) : asL cs p = asL cs' p := by
  cases p <;> first | rfl | cases h
end
def eqA (neg : Bool) : F2 := fun x y cs => match x, y with
  | .str a, .str b => .ok (.bl (if neg then !(a == b) else (a == b))) cs
  | x, y => eqD neg x y cs
abbrev oEqA : F2 := eqA false
abbrev oNeA : F2 := eqA true
theorem op_eqA {X : Cx} (hu : X.A.units + 64 < cLine) : OpR X (compareOp .Eq) (fun x y H Q => rEq x y H Q ∨ rEqD X.K x y H Q) := OpR.or op_eq (op_eqD hu)
theorem op_neA {X : Cx} (hu : X.A.units + 64 < cLine) : OpR X (compareOp .NotEq) (fun x y H Q => rNe x y H Q ∨ rNeD X.K x y H Q) := OpR.or op_ne (op_neD hu)
theorem ok_eqA {K : PySem.W.Frag} {mg : Str → Option Value} : Ok2 K mg oEqA (fun x y H Q => rEq x y H Q ∨ rEqD K x y H Q) := by
  intro E x y cs v w U H μ Q r hx hy h
  unfold oEqA eqA at h
  split at h
  · cases hx; cases hy
    refine .inl ⟨rfl, ?_⟩
    rw [dec_str]
    exact out_val r (.bl _) h
  · exact .inr (ok_eqD E x y cs v w U H μ Q r hx hy h)
theorem ok_neA {K : PySem.W.Frag} {mg : Str → Option Value} : Ok2 K mg oNeA (fun x y H Q => rNe x y H Q ∨ rNeD K x y H Q) := by
  intro E x y cs v w U H μ Q r hx hy h
  unfold oNeA eqA at h
  split at h
  · cases hx; cases hy
    refine .inl ⟨rfl, ?_⟩
    rw [dec_str]
    exact out_val r (.bl _) h
  · exact .inr (ok_neD E x y cs v w U H μ Q r hx hy h)
end AL
set_option Elab.async false
set_option linter.all false
set_option autoImplicit false
set_option maxRecDepth 100000
set_option maxHeartbeats 4000000
namespace AL
open PySem PySem.Spec PyProof.Rows L2
section
variable (P : Program) (w : World) (K : PySem.W.Frag) (mg : Str → Option Value) (base : Heap)
/-- the def called x keeps the plain function m -/
def FnB (x : Str) (k : Nat) (ps : List Str) (m : FN) : Prop := ∃ f fd, FnOk P w K mg base (L2.CX P w) k f fd ps (spOf K mg ps.length m) ∧ mg x = some (.ref f) ∧ PySem.W.keepIn K (.ref f) = true ∧ Binds K fd ps []
/-- the exception class x, its __init__ storing names -/
def XMk (x : Str) (ps names : List Str) : Prop := ∃ C fI fd, OexC K C ∧ PySem.W.findIn K (.ref C) "__init__" = some (some (.ref fI)) ∧ PySem.W.typeIn K (.ref fI) = some (.type "function") ∧
  FnOk P w K mg base (L2.CX P w) 1 fI fd ps (spXI C names) ∧ Binds K fd ps [] ∧ mg x = some (.ref C)
def XTry (x : Str) (tab : List (Str × Bool)) : Prop := ∃ cx, mg x = some cx ∧ ExmT K mg cx tab
def XIs (x : Str) (tab : List (Str × Bool)) : Prop := ∃ C, mg x = some (.ref C) ∧ XisT K mg (.ref C) tab
def XIsB (x : Str) (n : String) (tab : List (Str × Bool)) : Prop := mg x = none ∧ bootBuiltins x = some (.type n) ∧ XisT K mg (.type n) tab
end
section
variable {K : PySem.W.Frag} {mg : Str → Option Value}
theorem look_cons {α : Type} {c c0 : Str} {b b0 : α} {tab : List (Str × α)} (h : List.lookup c ((c0, b0) :: tab) = some b) : (c = c0 ∧ b = b0) ∨ tab.lookup c = some b := by
  have h : (match c == c0 with | true => some b0 | false => tab.lookup c) = some b := h
  cases e : c == c0 with
  | true => rw [e] at h; exact .inl ⟨by simpa using e, (Option.some.inj h).symm⟩
  | false => rw [e] at h; exact .inr h
theorem ExmT.nil {cx : Value} : ExmT K mg cx [] := fun c b h => by cases h
theorem ExmT.cons {cx : Value} {c0 : Str} {b0 : Bool} {C0 : Addr} {tab : List (Str × Bool)} (hg : mg c0 = some (.ref C0)) (hx : PySem.W.exmOne K (.ref C0) cx = some b0) (r : ExmT K mg cx tab) : ExmT K mg cx ((c0, b0) :: tab) := fun c b h C hm => by
  rcases look_cons h with ⟨rfl, rfl⟩ | h
  · rw [hg] at hm; cases hm; exact hx
  · exact r c b h C hm
theorem XisT.nil {cv : Value} : XisT K mg cv [] := fun c b h => by cases h
theorem XisT.cons {cv : Value} {c0 : Str} {b0 : Bool} {C0 : Addr} {tab : List (Str × Bool)} (hg : mg c0 = some (.ref C0)) (he : ExcK K C0) (hx : PySem.W.kitOne K (.ref C0) cv = some b0) (r : XisT K mg cv tab) : XisT K mg cv ((c0, b0) :: tab) := fun c b h C hm => by
  rcases look_cons h with ⟨rfl, rfl⟩ | h
  · rw [hg] at hm; cases hm; exact ⟨he, hx⟩
  · exact r c b h C hm
theorem XfT.nil {f : Str} : XfT K mg f [] := fun c h => by cases h
theorem XfT.cons {f c0 : Str} {C0 : Addr} {tab : List Str} (hg : mg c0 = some (.ref C0)) (he : XfC K C0) (hx : PySem.W.findIn K (.ref C0) f = some none) (r : XfT K mg f tab) : XfT K mg f (c0 :: tab) := fun c h C hm => by
  rw [List.contains_cons, Bool.or_eq_true] at h
  rcases h with h | h
  · have h : c = c0 := by simpa using h
    subst h
    rw [hg] at hm; cases hm; exact ⟨he, hx⟩
  · exact r c h C hm
/-- an exception of the class at C meets a clause of the class at D -/
theorem exm_of {C D : Addr} {b : Bool} (h1 : PySem.W.subIn K (.ref D) (.type "BaseException") = some true) (h2 : PySem.W.isClsIn K D = true) (h3 : PySem.W.typeIn K (.ref D) = some (.type "type")) (h4 : PySem.W.subIn K (.ref C) (.ref D) = some b) : PySem.W.exmOne K (.ref C) (.ref D) = some b := by
  unfold PySem.W.exmOne
  have h2' : (PySem.W.clsIn K D).isSome = true := h2
  simp only [h1, h2', h3, h4]
  simp
  unfold PySem.W.kitCls
  simp only [h2', h3, h4]
  simp
end
section
variable {X : Cx} {W : WE} {t : FA} {k : Nat} {ps : List Str} {m : FN} {x : Str} {p pos pos2 : Pos} {e : Expr} {es : List Expr} {names : List Str}
theorem b_fn (F : FnB X.prog X.w X.K X.mg X.base x k ps m) (hr : Room k X.A) (tk : Takes X W.w) (ha : PA X (e :: es) (rdA X.K X.mg W t)) (hl : LenA t ps.length) (hg : Gl X x := by rfl) (hdb : (x == ("__debug__" : Str)) = false := by decide)
    (he : starEach (e :: es) X.env = (false, eval e X.env) :: starEach es X.env := by rfl) (hpl : (backTo pos (starEach es X.env)).any (·.1) = false := by rfl) :
    PE X (.Call (.Name x p) (e :: es) [] pos) (rdE X.K X.mg W (fCall m t)) := by
  obtain ⟨f, fd, F, hm, hk, hb⟩ := F
  exact b_call F hr hm hk hb tk ha hl hg hdb he hpl
theorem s_raiseB (hc : X.calm = true) (R : XMk X.prog X.w X.K X.mg X.base x ps names) (hr : Room 2 X.A) (tk : Takes X W.w) (ha : PA X (e :: es) (rdA X.K X.mg W t)) (hn : names.length ≤ 100 := by decide) (hg : Gl X x := by rfl)
    (hdb : (x == ("__debug__" : Str)) = false := by decide) (he : starEach (e :: es) X.env = (false, eval e X.env) :: starEach es X.env := by rfl) (hpl : (backTo pos (starEach es X.env)).any (·.1) = false := by rfl) :
    PS X (.Raise (some (.Call (.Name x p) (e :: es) [] pos)) none pos2) (rdS X.K X.mg W (sRaise x names t)) := by
  obtain ⟨C, fI, fd, T, iC, tI, F1, hb, hm⟩ := R
  exact s_raise hc T iC tI F1 hr hb hm tk ha hn hg hdb he hpl
end
section
variable {X : Cx} {a : Addr} {oe : Obj} {pn : List (Addr × Obj)} {C : Addr} {d : Option Addr} {c : Str} {fs : List (Str × Pv)} {i : Nat} {n x : Str} {p p2 p3 pos : Pos} {w : WX}
theorem b_xisO {tab : List (Str × Bool)} (hT : XIs X.K X.mg x tab) (hz : Zc (.ref C) d oe) (hf : ∃ vs, oe.data = .fields vs) (hm : X.mg c = some (.ref C)) (hmi : X.mg "isinstance" = none) (hgx : Gl X x := by rfl) (hdx : (x == ("__debug__" : Str)) = false := by decide)
    (hN : X.N[i]? = some n := by rfl) (hv : Vis X.env.scope n := by first | exact Or.inl rfl | exact Or.inr (Or.inl rfl) | exact Or.inr (Or.inr rfl))
    (hd : (n == ("__debug__" : Str)) = false := by decide) (hcd : (n == ("__classdict__" : Str)) = false := by decide) (hg : Gl X "isinstance" := by rfl) 
    (he : starEach [.Name n p, .Name x p3] X.env = (false, eval (.Name n p) X.env) :: starEach [.Name x p3] X.env := by rfl) (he2 : starEach [.Name x p3] X.env = (false, eval (.Name x p3) X.env) :: starEach [] X.env := by rfl) (hpl : (backTo pos (starEach [.Name x p3] X.env)).any (·.1) = false := by rfl) :
    PE (X.suite a ((a, oe) :: pn)) (.Call (.Name "isinstance" p2) [.Name n p, .Name x p3] [] pos) (rdE X.K X.mg ⟨w, some ⟨i, a, .ref C, fs, d⟩⟩ (fXis tab c i)) := by
  obtain ⟨D, hD, hT⟩ := hT
  exact b_xis (tv := .ref D) hT hz hf hm (fun u h => h) (pe_glob (X := X.suite a ((a, oe) :: pn)) hgx hD rfl hdx) hmi hN hv hd hcd hg he he2 hpl
theorem b_xisB {tab : List (Str × Bool)} {nm : String} (hT : XIsB X.K X.mg x nm tab) (hz : Zc (.ref C) d oe) (hf : ∃ vs, oe.data = .fields vs) (hm : X.mg c = some (.ref C)) (hmi : X.mg "isinstance" = none) (hgx : Gl X x := by rfl) (hnx : x ≠ "__name__" := by decide) (hdx : (x == ("__debug__" : Str)) = false := by decide)
    (hN : X.N[i]? = some n := by rfl) (hv : Vis X.env.scope n := by first | exact Or.inl rfl | exact Or.inr (Or.inl rfl) | exact Or.inr (Or.inr rfl))
    (hd : (n == ("__debug__" : Str)) = false := by decide) (hcd : (n == ("__classdict__" : Str)) = false := by decide) (hg : Gl X "isinstance" := by rfl) 
    (he : starEach [.Name n p, .Name x p3] X.env = (false, eval (.Name n p) X.env) :: starEach [.Name x p3] X.env := by rfl) (he2 : starEach [.Name x p3] X.env = (false, eval (.Name x p3) X.env) :: starEach [] X.env := by rfl) (hpl : (backTo pos (starEach [.Name x p3] X.env)).any (·.1) = false := by rfl) :
    PE (X.suite a ((a, oe) :: pn)) (.Call (.Name "isinstance" p2) [.Name n p, .Name x p3] [] pos) (rdE X.K X.mg ⟨w, some ⟨i, a, .ref C, fs, d⟩⟩ (fXis tab c i)) := by
  obtain ⟨hx, hbo, hT⟩ := hT
  exact b_xis (tv := .ty nm) hT hz hf hm (fun u h => h) (pe_bltn (X := X.suite a ((a, oe) :: pn)) hgx hx hbo rfl hnx hdx) hmi hN hv hd hcd hg he he2 hpl
end
def iAny (f : FE) : FI := fun sl cs => (f sl cs).bind fun v cs1 => match v with
  | .str x => .ok (.fz ((TL.tl x).map fun c => .str (S [c]))) cs1
  | v => match srcOf cs1 v with
    | some s => .ok s cs1
    | none => .bad
theorem i_any {X : Cx} {W : WE} {f : FE} {e tg : Expr} (he : PE X e (rdE X.K X.mg W f)) : PI X tg e (rdI X.K X.mg W (iAny f)) := PI.le (PI.or (i_seq he) (i_str he)) fun σ H R q => by
  obtain ⟨sl, cs, μ, U, r0, rs, q⟩ := q
  unfold iAny at q
  cases hf : f sl cs with
  | bad => rw [hf] at q; exact q.elim
  | exn c fs cs1 =>
    refine .inl ⟨sl, cs, μ, U, r0, rs, ?_⟩
    unfold iSeq
    rw [hf] at q ⊢
    exact q
  | ok v cs1 =>
    rw [hf] at q
    cases v with
    | str x =>
      refine .inr ⟨sl, cs, μ, U, r0, rs, ?_⟩
      unfold iSeq2
      rw [hf]
      exact q
    | _ =>
      refine .inl ⟨sl, cs, μ, U, r0, rs, ?_⟩
      unfold iSeq
      rw [hf]
      exact q
theorem b_strS {X : Cx} {W : WE} {x : Str} {l : List Nat} {j : Nat} {pos : Pos} (h : x = S l) : PE X (.Constant (.str x) j pos) (rdE X.K X.mg W (fCon (.str (S l)))) := by
  subst h
  exact b_str
theorem b_globT {X : Cx} {W : WE} {x : Str} {l : List Nat} {u : Value} {pos : Pos} (hm : X.mg x = some u) (hv : RelV (.str (S l)) u) (hg : Gl X x := by rfl) (hd : (x == ("__debug__" : Str)) = false := by decide) : PE X (.Name x pos) (rdE X.K X.mg W (fCon (.str (S l)))) := b_globS hm hv hg hd
end AL
set_option Elab.async false
set_option linter.all false
set_option autoImplicit false
set_option maxRecDepth 100000
set_option maxHeartbeats 4000000
namespace AL
open PySem PySem.Spec PyProof.Rows L2
section
variable {sl : Sl} {cs : Cells} {f g o : FE} {t : FA} {a b : FS}
@[simp] theorem ap_orT : fOrT f g sl cs = (f sl cs).bind fun v cs1 => (tru v cs1).bind fun b cs2 => if b = true then .ok v cs2 else g sl cs2 := rfl
@[simp] theorem ap_rev : fRev f sl cs = (f sl cs).bind fun v cs1 => match asL cs1 v with | some xs => .ok (.lst xs.reverse) cs1 | none => .bad := rfl
@[simp] theorem ap_raise (c : Str) (names : List Str) : sRaise c names t sl cs = (t sl cs).go sl fun vs cs1 => if vs.length = names.length then .exn c (names.zip vs).reverse sl cs1 else .bad := rfl
@[simp] theorem ap_try (tab : List (Str × Bool)) (i : Nat) (su : Str → List (Str × Pv) → FS) : sTry tab i a su sl cs = match a sl cs with
  | .exn c fs sl1 cs1 => match tab.lookup c with
    | some true => goneS i (su c fs (sl1.set i none) cs1)
    | some false => .exn c fs sl1 cs1
    | none => .bad
  | r => r := rfl
@[simp] theorem ap_goneNx (i : Nat) : goneS i (.nx sl cs) = .nx (sl.set i none) cs := rfl
@[simp] theorem ap_goneRt (i : Nat) (v : Pv) : goneS i (.rt v cs) = .rt v cs := rfl
@[simp] theorem ap_goneBk (i : Nat) : goneS i (.bk sl cs) = .bk (sl.set i none) cs := rfl
@[simp] theorem ap_goneCt (i : Nat) : goneS i (.ct sl cs) = .ct (sl.set i none) cs := rfl
@[simp] theorem ap_iAny : iAny f sl cs = (f sl cs).bind fun v cs1 => match v with
  | .str x => .ok (.fz ((TL.tl x).map fun c => .str (S [c]))) cs1
  | v => match srcOf cs1 v with
    | some s => .ok s cs1
    | none => .bad := rfl
@[simp] theorem ap_iEnum : AL.iEnum f sl cs = (f sl cs).bind fun v cs1 => match asL cs1 v with
  | some xs => if isFz v = true then .ok (.fz (enumL 0 xs)) cs1 else .ok (.lv (enumIt v)) cs1
  | none => .bad := rfl
@[simp] theorem ap_xf (tab : List Str) (c : Str) (fs : List (Str × Pv)) (i : Nat) (n : Str) : fXf tab c fs i n sl cs = match sl[i]? with
  | some none => if tab.contains c = true then match fs.lookup n with
      | some v => .ok v cs
      | none => .bad
    else .bad
  | _ => .bad := rfl
@[simp] theorem ap_xis (tab : List (Str × Bool)) (c : Str) (i : Nat) : fXis tab c i sl cs = match sl[i]? with
  | some none => match tab.lookup c with
    | some b => .ok (.bl b) cs
    | none => .bad
  | _ => .bad := rfl
@[simp] theorem isFz_lst (xs : List Pv) : isFz (.lst xs) = true := rfl
@[simp] theorem isFz_tup (xs : List Pv) : isFz (.tup xs) = true := rfl
@[simp] theorem tyIs_str (x : Str) : tyIs "str" (.str x) cs = true := rfl
@[simp] theorem v_inS (neg : Bool) (c : Nat) (z : List Nat) : oInG neg (.str (S [c])) (.str (S z)) cs = .ok (.bl (if neg then !decide (c ∈ z) else decide (c ∈ z))) cs := rfl
@[simp] theorem v_eqS (x y : List Nat) : eqA false (.str (S x)) (.str (S y)) cs = .ok (.bl (x == y)) cs := by
  show Res.ok (Pv.bl (S x == S y)) cs = _
  rw [S_beq]
@[simp] theorem v_neS (x y : List Nat) : eqA true (.str (S x)) (.str (S y)) cs = .ok (.bl (!(x == y))) cs := by
  show Res.ok (Pv.bl (!(S x == S y))) cs = _
  rw [S_beq]
@[simp] theorem v_eqAI (i j : Int) : eqA false (.int i) (.int j) cs = .ok (.bl (i == j)) cs := rfl
@[simp] theorem v_neAI (i j : Int) : eqA true (.int i) (.int j) cs = .ok (.bl (!(i == j))) cs := rfl
@[simp] theorem v_eqAL (neg : Bool) (xs : List Pv) (y : Pv) : eqA neg (.lst xs) y cs = eqD neg (.lst xs) y cs := rfl
@[simp] theorem v_eqAT (neg : Bool) (xs : List Pv) (y : Pv) : eqA neg (.tup xs) y cs = eqD neg (.tup xs) y cs := rfl
@[simp] theorem v_eqAR (neg : Bool) (k : Nat) (y : Pv) : eqA neg (.ref k) y cs = eqD neg (.ref k) y cs := rfl
/-- what both sides come to as data -/
theorem v_eqData {neg : Bool} {x y : Pv} {d e : PyData} (h1 : toPy (deref cs x) = some d) (h2 : toPy (deref cs y) = some e) (s1 : SeqAt.shaped d = true) (s2 : SeqAt.shaped e = true) : eqD neg x y cs = .ok (.bl (if neg then !PyData.eqv d e else PyData.eqv d e)) cs := by
  simp [eqD, h1, h2, s1, s2]
theorem v_eqSame {neg : Bool} {x y : Pv} {d : PyData} (h1 : toPy (deref cs x) = some d) (h2 : toPy (deref cs y) = some d) (s1 : SeqAt.shaped d = true) : eqD neg x y cs = .ok (.bl (!neg)) cs := by
  rw [v_eqData h1 h2 s1 s1, SeqAt.eqv_refl d (SeqAt.canLay_of_shaped s1)]
  cases neg <;> rfl
@[simp] theorem v_lenS (x : List Nat) : mLen [.str (S x)] cs = guard_ (fits x.length) (.ok (.int x.length) cs) := by
  show guard_ (fits (S x).length) (Res.ok (Pv.int (S x).length) cs) = _
  rw [S_length]
theorem v_ixS {x : List Nat} {i : Int} {c : Nat} (h : atI x i = some c) (hf : fits x.length = true) : oIx (.str (S x)) (.int i) cs = .ok (.str (S [c])) cs := by
  show (match atI x i with | some c => guard_ (fits (S x).length) (Res.ok (Pv.str ⟨#[c]⟩) cs) | none => .bad) = _
  rw [h, S_length, hf]; rfl
theorem cutS_S (x : List Nat) (lo hi : Option Int) : cutS (S x) lo hi = S (cut x lo hi) := by
  unfold cutS cut
  rw [S_length]
  rfl
@[simp] theorem v_slcS (x : List Nat) (lo hi : Option Int) : oSlc (.str (S x)) lo hi cs = guard_ (fits x.length) (.ok (.str (S (cut x lo hi))) cs) := by
  show guard_ (fits (S x).length) (Res.ok (Pv.str (cutS (S x) lo hi)) cs) = _
  rw [S_length, cutS_S]
@[simp] theorem v_addSS (x y : List Nat) : oAdd (.str (S x)) (.str (S y)) cs = guard_ (fits (x.length + y.length)) (.ok (.str (S (x ++ y))) cs) := by
  rw [v_addS, S_length, S_length, S_append]
@[simp] theorem v_starts (x y : List Nat) : mStarts (.str (S x)) [.str (S y)] cs = .ok (.bl (TL.pre y x)) cs := rfl
@[simp] theorem v_str (i : Int) : mStr [.int i] cs = guard_ (decide (i.natAbs.log2 < 1920)) (.ok (.str (S (intL i))) cs) := rfl
@[simp] theorem v_strS (x : Str) : mStr [.str x] cs = .ok (.str x) cs := rfl
@[simp] theorem v_intAI (i : Int) : mIntA [.int i] cs = .ok (.int i) cs := rfl
@[simp] theorem v_intAB (b : Bool) : mIntA [.bl b] cs = .ok (.int (if b then 1 else 0)) cs := rfl
@[simp] theorem v_all (bs : List Bool) : mAll [.lst (bs.map Pv.bl)] cs = .ok (.bl (bs.all id)) cs := by simp [mAll, asL, boolsOf_map]
@[simp] theorem v_mulS (x : List Nat) (n : Int) : oMulS (.str (S x)) (.int n) cs = guard_ (decide (-1000000 ≤ n) && decide (n ≤ 1000000) && fits (x.length * n.toNat)) (.ok (.str (S (repS x n.toNat))) cs) := by
  show guard_ (decide (-1000000 ≤ n) && decide (n ≤ 1000000) && fits ((S x).length * n.toNat)) (Res.ok (Pv.str (S (repS x n.toNat))) cs) = _
  rw [S_length]
end
theorem cut_from {α : Type} (x : List α) {i : Nat} : cut x (some (i : Int)) none = x.drop i := by
  unfold cut HT.sIx
  have e : ¬ ((i : Int) < 0) := by omega
  simp only [e, if_false, Int.toNat_natCast]
  by_cases h : i ≤ x.length
  · rw [Nat.min_eq_left h]
    exact List.take_of_length_le (by simp)
  · rw [Nat.min_eq_right (by omega), List.drop_eq_nil_of_le (Nat.le_refl _), List.drop_eq_nil_of_le (by omega)]
    simp
/-- all cells but the k-th stand; new ones may come -/
structure Fr (k : Nat) (cs cs' : Cells) : Prop where
  len : cs.length ≤ cs'.length
  at_ : ∀ j, j < cs.length → j ≠ k → cs'[j]? = cs[j]?
theorem Fr.refl (k : Nat) (cs : Cells) : Fr k cs cs := ⟨Nat.le_refl _, fun _ _ _ => rfl⟩
theorem Fr.trans {k : Nat} {a b c : Cells} (h : Fr k a b) (g : Fr k b c) : Fr k a c := ⟨Nat.le_trans h.len g.len, fun j hj hk => (g.at_ j (Nat.lt_of_lt_of_le hj h.len) hk).trans (h.at_ j hj hk)⟩
theorem Fr.set (k : Nat) (cs : Cells) (c : Co) : Fr k cs (cs.set k c) := ⟨by rw [List.length_set]; exact Nat.le_refl _, fun j hj hk => List.getElem?_set_ne (Ne.symm hk)⟩
/-- all cells stand; new ones may come -/
structure F0 (cs cs' : Cells) : Prop where
  len : cs.length ≤ cs'.length
  at_ : ∀ j, j < cs.length → cs'[j]? = cs[j]?
theorem F0.refl (cs : Cells) : F0 cs cs := ⟨Nat.le_refl _, fun _ _ => rfl⟩
theorem F0.trans {a b c : Cells} (h : F0 a b) (g : F0 b c) : F0 a c := ⟨Nat.le_trans h.len g.len, fun j hj => (g.at_ j (Nat.lt_of_lt_of_le hj h.len)).trans (h.at_ j hj)⟩
theorem F0.app (cs more : Cells) : F0 cs (cs ++ more) := ⟨by simp, fun j hj => List.getElem?_append_left hj⟩
theorem F0.get {a b : Cells} (h : F0 a b) {k : Nat} {c : Co} (e : a[k]? = some c) : b[k]? = some c := by rw [h.at_ k (List.getElem?_eq_some_iff.mp e).1]; exact e
theorem Fr.get {k : Nat} {a b : Cells} (h : Fr k a b) {j : Nat} {c : Co} (e : a[j]? = some c) (hk : j ≠ k) : b[j]? = some c := by rw [h.at_ j (List.getElem?_eq_some_iff.mp e).1 hk]; exact e
end AL
set_option Elab.async false
set_option linter.all false
set_option autoImplicit false
set_option maxRecDepth 100000
set_option maxHeartbeats 4000000
namespace AL
open PySem PySem.Spec PyProof.Rows L2
def Shp (n : Nat) (d : PyData) : Prop := d.canLay0 = true ∧ d.depth ≤ n
theorem Shp.shaped {n : Nat} {d : PyData} (h : Shp n d) (hn : n ≤ 64 := by decide) : SeqAt.shaped d = true := by
  unfold SeqAt.shaped
  rw [h.1, decide_eq_true (Nat.le_trans h.2 hn)]
  rfl
theorem Shp.mono {n m : Nat} {d : PyData} (h : Shp n d) (hn : n ≤ m) : Shp m d := ⟨h.1, Nat.le_trans h.2 hn⟩
theorem Shp.non {n : Nat} : Shp n .none := ⟨by simp [PyData.canLay0], by simp [PyData.depth]⟩
theorem Shp.int {n : Nat} (i : Int) : Shp n (.int i) := ⟨by simp [PyData.canLay0], by simp [PyData.depth]⟩
theorem Shp.bool {n : Nat} (b : Bool) : Shp n (.bool b) := ⟨by simp [PyData.canLay0], by simp [PyData.depth]⟩
/-- signs that a text may have -/
def Sg (l : List Nat) : Prop := ∀ c ∈ l, c < 1114112
theorem Shp.str {n : Nat} {l : List Nat} (h : Sg l) : Shp n (.str (S l)) := by
  refine ⟨?_, by simp [PyData.depth]⟩
  simp only [PyData.canLay0]
  show (S l).cps.all (· < 0x110000) = true
  unfold S
  simp only [List.all_toArray, List.all_eq_true, decide_eq_true_eq]
  exact h
theorem shp_all {n : Nat} : ∀ {ds : List PyData}, (∀ d ∈ ds, Shp n d) → PyData.canLayAll0 ds = true ∧ PyData.depthAll ds ≤ n
  | [], _ => ⟨by simp [PyData.canLayAll0], by simp [PyData.depthAll]⟩
  | d :: ds, h => by
    have h1 := h d List.mem_cons_self
    have h2 := shp_all fun e he => h e (List.mem_cons_of_mem _ he)
    refine ⟨by simp [PyData.canLayAll0, h1.1, h2.1], ?_⟩
    simp only [PyData.depthAll]
    exact Nat.max_le.mpr ⟨h1.2, h2.2⟩
theorem Shp.list {n : Nat} {ds : List PyData} (h : ∀ d ∈ ds, Shp n d) : Shp (n + 1) (.list ds) := by
  have := shp_all h
  exact ⟨by simp [PyData.canLay0, this.1], by simp only [PyData.depth]; omega⟩
theorem Shp.tuple {n : Nat} {ds : List PyData} (h : ∀ d ∈ ds, Shp n d) : Shp (n + 1) (.tuple ds) := by
  have := shp_all h
  exact ⟨by simp [PyData.canLay0, this.1], by simp only [PyData.depth]; omega⟩
theorem toPys_map {α : Type} {f : α → Pv} {g : α → PyData} : ∀ {L : List α}, (∀ x ∈ L, toPy (f x) = some (g x)) → toPys (L.map f) = some (L.map g)
  | [], _ => rfl
  | x :: L, h => by
    show (match toPy (f x), toPys (L.map f) with | some d, some ds => some (d :: ds) | _, _ => none) = _
    rw [h x List.mem_cons_self, toPys_map fun y hy => h y (List.mem_cons_of_mem _ hy)]
    rfl
theorem toPy_lst {xs : List Pv} {ds : List PyData} (h : toPys xs = some ds) : toPy (.lst xs) = some (.list ds) := by
  show (toPys xs).map PyData.list = _
  rw [h]; rfl
theorem toPy_tup {xs : List Pv} {ds : List PyData} (h : toPys xs = some ds) : toPy (.tup xs) = some (.tuple ds) := by
  show (toPys xs).map PyData.tuple = _
  rw [h]; rfl
@[simp] theorem deref_lst (cs : Cells) (xs : List Pv) : deref cs (.lst xs) = .lst xs := rfl
@[simp] theorem deref_tup (cs : Cells) (xs : List Pv) : deref cs (.tup xs) = .tup xs := rfl
@[simp] theorem deref_str (cs : Cells) (x : Str) : deref cs (.str x) = .str x := rfl
@[simp] theorem deref_int (cs : Cells) (i : Int) : deref cs (.int i) = .int i := rfl
@[simp] theorem deref_bl (cs : Cells) (b : Bool) : deref cs (.bl b) = .bl b := rfl
@[simp] theorem deref_non (cs : Cells) : deref cs .non = .non := rfl
theorem lcL_filter {α : Type} {turn : Pv → Cells → Res (Option Pv)} {f h : α → Pv} {p : α → Bool} {cs : Cells} : ∀ (L : List α), (∀ o ∈ L, turn (f o) cs = .ok (if p o = true then some (h o) else none) cs) → lcL turn (L.map f) cs = .ok ((L.filter p).map h) cs
  | [], _ => rfl
  | v :: vs, q => by
    have q1 := q v List.mem_cons_self
    have ih := lcL_filter vs fun u hu => q u (List.mem_cons_of_mem _ hu)
    cases hp : p v with
    | true => rw [hp] at q1; simp [lcL, q1, ih, hp]
    | false => rw [hp] at q1; simp [lcL, q1, ih, hp]
theorem fLc_filter {α : Type} {src : FI} {g : FG} {c : FT} {e : FE} {vs : List Nat} {sl : Sl} {cs : Cells} {L : List α} {f h : α → Pv} {p : α → Bool} (hs : src sl cs = .ok (.fz (L.map f)) cs) (hf : L.length ≤ 16777216) (ht : ∀ o ∈ L, lcTurn g c e (wipeS sl vs) (f o) cs = .ok (if p o = true then some (h o) else none) cs) : fLc src g c e vs sl cs = .ok (.lst ((L.filter p).map h)) cs := by
  have hl : fits (L.map f).length = true := decide_eq_true (by rw [List.length_map]; exact hf)
  simp [fLc, hs, lcS]
  rw [guard_of (by simpa using hl), lcL_filter L ht]
  rfl
/-- a list of texts against the empty list -/
theorem v_neNil {α : Type} {L : List α} {f : α → List Nat} (h : ∀ x ∈ L, Sg (f x)) (neg : Bool) (cs : Cells) : eqD neg (.lst (L.map fun x => .str (S (f x)))) (.lst []) cs = .ok (.bl (if neg then !L.isEmpty else L.isEmpty)) cs := by
  have h1 : toPy (deref cs (.lst (L.map fun x => Pv.str (S (f x))))) = some (.list (L.map fun x => PyData.str (S (f x)))) := toPy_lst (toPys_map fun x _ => rfl)
  have h2 : toPy (deref cs (.lst [])) = some (.list []) := rfl
  rw [v_eqData h1 h2 (Shp.shaped (n := 1) (Shp.list fun d hd => by
    obtain ⟨x, hx, rfl⟩ := List.mem_map.mp hd
    exact Shp.str (h x hx))) (Shp.shaped (n := 1) (Shp.list fun d hd => by simp at hd))]
  cases L with
  | nil => cases neg <;> rfl
  | cons a r => cases neg <;> rfl
theorem while_step (c : FT) (b : FS) (n : Nat) (sl : Sl) (cs : Cells) : whileN c b (n + 1) sl cs = (c sl cs).go sl fun q cs1 => if q = true then (b sl cs1).turn (whileN c b n) else .nx sl cs1 := rfl
theorem whileN_inv {c : FT} {b : FS} {P : Nat → Sl → Cells → Prop} {Q : Sl → Cells → Prop}
    (h : ∀ m sl cs, P m sl cs → (∃ cs1, c sl cs = .ok false cs1 ∧ Q sl cs1) ∨ ∃ cs1 sl2 cs2 m2, c sl cs = .ok true cs1 ∧ b sl cs1 = .nx sl2 cs2 ∧ m2 < m ∧ P m2 sl2 cs2) :
    ∀ (n m : Nat) (sl : Sl) (cs : Cells), m < n → P m sl cs → ∃ sl' cs', whileN c b n sl cs = .nx sl' cs' ∧ Q sl' cs'
  | 0, m, _, _, hn, _ => absurd hn (Nat.not_lt_zero _)
  | n + 1, m, sl, cs, hn, hp => by
    rw [while_step]
    rcases h m sl cs hp with ⟨cs1, e, q⟩ | ⟨cs1, sl2, cs2, m2, e1, e2, hm, hp2⟩
    · exact ⟨sl, cs1, by rw [e]; rfl, q⟩
    · obtain ⟨sl', cs', e3, q⟩ := whileN_inv h n m2 sl2 cs2 (by omega) hp2
      refine ⟨sl', cs', ?_, q⟩
      rw [e1]
      show (b sl cs1).turn (whileN c b n) = _
      rw [e2]
      exact e3
/-- P m: at most m turns are left -/
theorem while_inv {c : FT} {b : FS} {P : Nat → Sl → Cells → Prop} {Q : Sl → Cells → Prop}
    (h : ∀ m sl cs, P m sl cs → (∃ cs1, c sl cs = .ok false cs1 ∧ Q sl cs1) ∨ ∃ cs1 sl2 cs2 m2, c sl cs = .ok true cs1 ∧ b sl cs1 = .nx sl2 cs2 ∧ m2 < m ∧ P m2 sl2 cs2) {m : Nat} {sl : Sl} {cs : Cells} (hm : m ≤ 1000000000) (hp : P m sl cs) :
    ∃ sl' cs', sWhile c b sl cs = .nx sl' cs' ∧ Q sl' cs' := whileN_inv h FU m sl cs (by unfold FU; omega) hp
@[simp] theorem asL_ref {cs : Cells} {k : Nat} : asL cs (.ref k) = match cs[k]? with | some (.lst xs) => some xs | _ => none := rfl
theorem v_append {cs : Cells} {k : Nat} {xs : List Pv} (h : cs[k]? = some (.lst xs)) (hl : xs.length < 16777216) (v : Pv) : mAppend (.ref k) [v] cs = .ok .non (cs.set k (.lst (xs ++ [v]))) := by
  have hz : fits (xs.length + 1) = true := decide_eq_true (by omega)
  show (match cs[k]? with | some (.lst xs) => guard_ (fits (xs.length + 1)) (.ok Pv.non (cs.set k (.lst (xs ++ [v])))) | _ => .bad) = _
  rw [h]
  show guard_ (fits (xs.length + 1)) _ = _
  rw [guard_of hz]
theorem v_tyList {cs : Cells} {k : Nat} {xs : List Pv} (h : cs[k]? = some (.lst xs)) : tyIs "list" (.ref k) cs = true := by
  simp [tyIs, h]
end AL
set_option Elab.async false
set_option linter.all false
set_option autoImplicit false
set_option maxRecDepth 100000
set_option maxHeartbeats 4000000
namespace AL
open PySem PySem.Spec PyProof.Rows L2
mutual
/-- p, of the cells cs, is q behind the def: the first n cells stay, the cell of ex becomes the n-th, all others are read as they stand -/
inductive Fz (n : Nat) (ex : Option Nat) (cs : Cells) : Pv → Pv → Prop
  | non : Fz n ex cs .non .non
  | bl (b : Bool) : Fz n ex cs (.bl b) (.bl b)
  | int (i : Int) : Fz n ex cs (.int i) (.int i)
  | str (x : Str) : Fz n ex cs (.str x) (.str x)
  | glo (x : Str) : Fz n ex cs (.glo x) (.glo x)
  | ty (t : String) : Fz n ex cs (.ty t) (.ty t)
  | tup {xs ys : List Pv} : FzL n ex cs xs ys → Fz n ex cs (.tup xs) (.tup ys)
  | lst {xs ys : List Pv} : FzL n ex cs xs ys → Fz n ex cs (.lst xs) (.lst ys)
  | obj {c : Str} {fs gs : List (Str × Pv)} : fs.map (·.1) = gs.map (·.1) → FzL n ex cs (fs.map (·.2)) (gs.map (·.2)) → Fz n ex cs (.obj c fs) (.obj c gs)
  | dk {fs gs : List (Key × Pv)} : fs.map (·.1) = gs.map (·.1) → FzL n ex cs (fs.map (·.2)) (gs.map (·.2)) → Fz n ex cs (.dk fs) (.dk gs)
  | dt {fs gs : List (List Key × Pv)} : fs.map (·.1) = gs.map (·.1) → FzL n ex cs (fs.map (·.2)) (gs.map (·.2)) → Fz n ex cs (.dt fs) (.dt gs)
  | zk {fs gs : List (Key × Pv)} : fs.map (·.1) = gs.map (·.1) → FzL n ex cs (fs.map (·.2)) (gs.map (·.2)) → Fz n ex cs (.zk fs) (.zk gs)
  | zt {fs gs : List (List Key × Pv)} : fs.map (·.1) = gs.map (·.1) → FzL n ex cs (fs.map (·.2)) (gs.map (·.2)) → Fz n ex cs (.zt fs) (.zt gs)
  | old {k : Nat} : k < n → Fz n ex cs (.ref k) (.ref k)
  | kept {k : Nat} : n ≤ k → ex = some k → Fz n ex cs (.ref k) (.ref n)
  | cl {k : Nat} {xs ys : List Pv} : n ≤ k → ex ≠ some k → cs[k]? = some (.lst xs) → FzL n ex cs xs ys → Fz n ex cs (.ref k) (.lst ys)
  | ci {k : Nat} {c : Str} {fs gs : List (Str × Pv)} : n ≤ k → ex ≠ some k → cs[k]? = some (.ins c fs) → fs.map (·.1) = gs.map (·.1) → FzL n ex cs (fs.map (·.2)) (gs.map (·.2)) → Fz n ex cs (.ref k) (.obj c gs)
  | cdk {k : Nat} {fs gs : List (Key × Pv)} : n ≤ k → ex ≠ some k → cs[k]? = some (.dK fs) → fs.map (·.1) = gs.map (·.1) → FzL n ex cs (fs.map (·.2)) (gs.map (·.2)) → Fz n ex cs (.ref k) (.dk gs)
  | cdt {k : Nat} {fs gs : List (List Key × Pv)} : n ≤ k → ex ≠ some k → cs[k]? = some (.dT fs) → fs.map (·.1) = gs.map (·.1) → FzL n ex cs (fs.map (·.2)) (gs.map (·.2)) → Fz n ex cs (.ref k) (.dt gs)
inductive FzL (n : Nat) (ex : Option Nat) (cs : Cells) : List Pv → List Pv → Prop
  | nil : FzL n ex cs [] []
  | cons {p q : Pv} {ps qs : List Pv} : Fz n ex cs p q → FzL n ex cs ps qs → FzL n ex cs (p :: ps) (q :: qs)
end
theorem zip_ext {α β : Type} : ∀ {a b : List (α × β)}, a.map (·.1) = b.map (·.1) → a.map (·.2) = b.map (·.2) → a = b
  | [], [], _, _ => rfl
  | [], _ :: _, h, _ => by cases h
  | _ :: _, [], h, _ => by cases h
  | (x, y) :: a, (z, w) :: b, h1, h2 => by
    simp only [List.map_cons, List.cons.injEq] at h1 h2
    rw [zip_ext h1.2 h2.2, h1.1, h2.1]
mutual
theorem Fz.det {n : Nat} {ex : Option Nat} {cs : Cells} : ∀ {p q r : Pv}, Fz n ex cs p q → Fz n ex cs p r → q = r
  | _, _, _, .non, h => by cases h; rfl
  | _, _, _, .bl _, h => by cases h; rfl
  | _, _, _, .int _, h => by cases h; rfl
  | _, _, _, .str _, h => by cases h; rfl
  | _, _, _, .glo _, h => by cases h; rfl
  | _, _, _, .ty _, h => by cases h; rfl
  | _, _, _, .tup a, h => by cases h with | tup b => rw [FzL.det a b]
  | _, _, _, .lst a, h => by cases h with | lst b => rw [FzL.det a b]
  | _, _, _, .obj k a, h => by cases h with | obj k2 b => rw [zip_ext (k.symm.trans k2) (FzL.det a b)]
  | _, _, _, .dk k a, h => by cases h with | dk k2 b => rw [zip_ext (k.symm.trans k2) (FzL.det a b)]
  | _, _, _, .dt k a, h => by cases h with | dt k2 b => rw [zip_ext (k.symm.trans k2) (FzL.det a b)]
  | _, _, _, .zk k a, h => by cases h with | zk k2 b => rw [zip_ext (k.symm.trans k2) (FzL.det a b)]
  | _, _, _, .zt k a, h => by cases h with | zt k2 b => rw [zip_ext (k.symm.trans k2) (FzL.det a b)]
  | _, _, _, .old hk, h => by
    cases h with
    | old _ => rfl
    | kept h1 _ => exact absurd hk (Nat.not_lt.mpr h1)
    | cl h1 _ _ _ => exact absurd hk (Nat.not_lt.mpr h1)
    | ci h1 _ _ _ _ => exact absurd hk (Nat.not_lt.mpr h1)
    | cdk h1 _ _ _ _ => exact absurd hk (Nat.not_lt.mpr h1)
    | cdt h1 _ _ _ _ => exact absurd hk (Nat.not_lt.mpr h1)
  | _, _, _, .kept hk he, h => by
    cases h with
    | old h1 => exact absurd h1 (Nat.not_lt.mpr hk)
    | kept _ _ => rfl
    | cl _ h1 _ _ => exact absurd he h1
    | ci _ h1 _ _ _ => exact absurd he h1
    | cdk _ h1 _ _ _ => exact absurd he h1
    | cdt _ h1 _ _ _ => exact absurd he h1
  | _, _, _, .cl hk he hc a, h => by
    cases h with
    | old h1 => exact absurd h1 (Nat.not_lt.mpr hk)
    | kept _ h1 => exact absurd h1 he
    | cl _ _ h1 b => rw [hc] at h1; cases h1; rw [FzL.det a b]
    | ci _ _ h1 _ _ => rw [hc] at h1; cases h1
    | cdk _ _ h1 _ _ => rw [hc] at h1; cases h1
    | cdt _ _ h1 _ _ => rw [hc] at h1; cases h1
  | _, _, _, .ci hk he hc k a, h => by
    cases h with
    | old h1 => exact absurd h1 (Nat.not_lt.mpr hk)
    | kept _ h1 => exact absurd h1 he
    | cl _ _ h1 b => rw [hc] at h1; cases h1
    | ci _ _ h1 k2 b => rw [hc] at h1; cases h1; rw [zip_ext (k.symm.trans k2) (FzL.det a b)]
    | cdk _ _ h1 _ _ => rw [hc] at h1; cases h1
    | cdt _ _ h1 _ _ => rw [hc] at h1; cases h1
  | _, _, _, .cdk hk he hc k a, h => by
    cases h with
    | old h1 => exact absurd h1 (Nat.not_lt.mpr hk)
    | kept _ h1 => exact absurd h1 he
    | cl _ _ h1 b => rw [hc] at h1; cases h1
    | ci _ _ h1 k2 b => rw [hc] at h1; cases h1
    | cdk _ _ h1 k2 b => rw [hc] at h1; cases h1; rw [zip_ext (k.symm.trans k2) (FzL.det a b)]
    | cdt _ _ h1 _ _ => rw [hc] at h1; cases h1
  | _, _, _, .cdt hk he hc k a, h => by
    cases h with
    | old h1 => exact absurd h1 (Nat.not_lt.mpr hk)
    | kept _ h1 => exact absurd h1 he
    | cl _ _ h1 b => rw [hc] at h1; cases h1
    | ci _ _ h1 k2 b => rw [hc] at h1; cases h1
    | cdk _ _ h1 k2 b => rw [hc] at h1; cases h1
    | cdt _ _ h1 k2 b => rw [hc] at h1; cases h1; rw [zip_ext (k.symm.trans k2) (FzL.det a b)]
theorem FzL.det {n : Nat} {ex : Option Nat} {cs : Cells} : ∀ {p q r : List Pv}, FzL n ex cs p q → FzL n ex cs p r → q = r
  | _, _, _, .nil, h => by cases h; rfl
  | _, _, _, .cons a b, h => by cases h with | cons a2 b2 => rw [Fz.det a a2, FzL.det b b2]
end
mutual
/-- no cell is named -/
def nr : Pv → Bool
  | .tup xs => nrs xs
  | .lst xs => nrs xs
  | .obj _ fs => nrf fs
  | .dk kvs => nrd kvs
  | .dt kvs => nrt kvs
  | .zk kvs => nrd kvs
  | .zt kvs => nrt kvs
  | .ref _ => false
  | _ => true
def nrs : List Pv → Bool
  | [] => true
  | p :: ps => nr p && nrs ps
def nrf : List (Str × Pv) → Bool
  | [] => true
  | (_, p) :: ps => nr p && nrf ps
def nrd : List (Key × Pv) → Bool
  | [] => true
  | (_, p) :: ps => nr p && nrd ps
def nrt : List (List Key × Pv) → Bool
  | [] => true
  | (_, p) :: ps => nr p && nrt ps
end
mutual
theorem nr_fz {n : Nat} {ex : Option Nat} {cs : Cells} : ∀ {p : Pv}, nr p = true → Fz n ex cs p p
  | .non, _ => .non
  | .bl b, _ => .bl b
  | .int i, _ => .int i
  | .str x, _ => .str x
  | .glo x, _ => .glo x
  | .ty t, _ => .ty t
  | .tup xs, h => .tup (nrs_fz (by unfold nr at h; exact h))
  | .lst xs, h => .lst (nrs_fz (by unfold nr at h; exact h))
  | .obj c fs, h => .obj rfl (nrf_fz (by unfold nr at h; exact h))
  | .dk kvs, h => .dk rfl (nrd_fz (by unfold nr at h; exact h))
  | .dt kvs, h => .dt rfl (nrt_fz (by unfold nr at h; exact h))
  | .zk kvs, h => .zk rfl (nrd_fz (by unfold nr at h; exact h))
  | .zt kvs, h => .zt rfl (nrt_fz (by unfold nr at h; exact h))
  | .ref k, h => by unfold nr at h; cases h
theorem nrs_fz {n : Nat} {ex : Option Nat} {cs : Cells} : ∀ {ps : List Pv}, nrs ps = true → FzL n ex cs ps ps
  | [], _ => .nil
  | p :: ps, h => by
    unfold nrs at h
    have h := Bool.and_eq_true_iff.mp h
    exact .cons (nr_fz h.1) (nrs_fz h.2)
theorem nrf_fz {n : Nat} {ex : Option Nat} {cs : Cells} : ∀ {ps : List (Str × Pv)}, nrf ps = true → FzL n ex cs (ps.map (·.2)) (ps.map (·.2))
  | [], _ => .nil
  | (x, p) :: ps, h => by
    unfold nrf at h
    have h := Bool.and_eq_true_iff.mp h
    exact .cons (nr_fz h.1) (nrf_fz h.2)
theorem nrd_fz {n : Nat} {ex : Option Nat} {cs : Cells} : ∀ {ps : List (Key × Pv)}, nrd ps = true → FzL n ex cs (ps.map (·.2)) (ps.map (·.2))
  | [], _ => .nil
  | (x, p) :: ps, h => by
    unfold nrd at h
    have h := Bool.and_eq_true_iff.mp h
    exact .cons (nr_fz h.1) (nrd_fz h.2)
theorem nrt_fz {n : Nat} {ex : Option Nat} {cs : Cells} : ∀ {ps : List (List Key × Pv)}, nrt ps = true → FzL n ex cs (ps.map (·.2)) (ps.map (·.2))
  | [], _ => .nil
  | (x, p) :: ps, h => by
    unfold nrt at h
    have h := Bool.and_eq_true_iff.mp h
    exact .cons (nr_fz h.1) (nrt_fz h.2)
end
mutual
/-- what is borne by n cells stays -/
theorem rep_fz {K : PySem.W.Frag} {mg : Str → Option Value} {U : Hp} {μ : List Addr} {n : Nat} (hn : μ.length = n) {ex : Option Nat} {cs : Cells} : ∀ {p : Pv} {v : V}, RepV K mg U μ p v → Fz n ex cs p p
  | _, _, .non => .non
  | _, _, .bl b => .bl b
  | _, _, .int i => .int i
  | _, _, .str x => .str x
  | _, _, .glo _ => .glo _
  | _, _, .ty t => .ty t
  | _, _, .tup _ r => .tup (reps_fz hn r)
  | _, _, .lst _ r => .lst (reps_fz hn r)
  | _, _, .obj _ _ _ r => .obj rfl (reps_fz hn r)
  | _, _, .dk _ _ r => .dk rfl (reps_fz hn r)
  | _, _, .dt _ _ r => .dt rfl (reps_fz hn r)
  | _, _, .zk _ _ r => .zk rfl (reps_fz hn r)
  | _, _, .zt _ _ r => .zt rfl (reps_fz hn r)
  | _, _, .ref h => .old (by rw [← hn]; exact (List.getElem?_eq_some_iff.mp h).1)
theorem reps_fz {K : PySem.W.Frag} {mg : Str → Option Value} {U : Hp} {μ : List Addr} {n : Nat} (hn : μ.length = n) {ex : Option Nat} {cs : Cells} : ∀ {p : List Pv} {v : List V}, RepVs K mg U μ p v → FzL n ex cs p p
  | _, _, .nil => .nil
  | _, _, .cons a b => .cons (rep_fz hn a) (reps_fz hn b)
end
inductive FzC (n : Nat) (ex : Option Nat) (cs : Cells) : Co → Co → Prop
  | lst {xs ys : List Pv} : FzL n ex cs xs ys → FzC n ex cs (.lst xs) (.lst ys)
  | ins {c : Str} {fs gs : List (Str × Pv)} : fs.map (·.1) = gs.map (·.1) → FzL n ex cs (fs.map (·.2)) (gs.map (·.2)) → FzC n ex cs (.ins c fs) (.ins c gs)
  | dK {fs gs : List (Key × Pv)} : fs.map (·.1) = gs.map (·.1) → FzL n ex cs (fs.map (·.2)) (gs.map (·.2)) → FzC n ex cs (.dK fs) (.dK gs)
  | dT {fs gs : List (List Key × Pv)} : fs.map (·.1) = gs.map (·.1) → FzL n ex cs (fs.map (·.2)) (gs.map (·.2)) → FzC n ex cs (.dT fs) (.dT gs)
  | dead : FzC n ex cs .dead .dead
theorem FzC.det {n : Nat} {ex : Option Nat} {cs : Cells} {a b c : Co} (h : FzC n ex cs a b) (g : FzC n ex cs a c) : b = c := by
  cases h with
  | lst x => cases g with | lst y => rw [x.det y]
  | ins k x => cases g with | ins k2 y => rw [zip_ext (k.symm.trans k2) (x.det y)]
  | dK k x => cases g with | dK k2 y => rw [zip_ext (k.symm.trans k2) (x.det y)]
  | dT k x => cases g with | dT k2 y => rw [zip_ext (k.symm.trans k2) (x.det y)]
  | dead => cases g; rfl
structure ShutC (cs cs1 cs2 : Cells) (ex : Option Nat) : Prop where
  len : cs2.length = cs.length + (if ex.isSome then 1 else 0)
  old : ∀ (j : Nat) (c : Co), cs[j]? = some c → (cs1[j]? = some c ∧ cs2[j]? = some c) ∨ (cs1[j]? ≠ some c ∧ ∃ c1 c2, cs1[j]? = some c1 ∧ cs2[j]? = some c2 ∧ FzC cs.length ex cs1 c1 c2)
  new : ∀ (k : Nat), ex = some k → cs.length ≤ k ∧ ∃ c1 c2, cs1[k]? = some c1 ∧ cs2[cs.length]? = some c2 ∧ FzC cs.length ex cs1 c1 c2
theorem ShutC.det {cs cs1 a b : Cells} {ex : Option Nat} (h : ShutC cs cs1 a ex) (g : ShutC cs cs1 b ex) : a = b := by
  refine List.ext_getElem? fun j => ?_
  by_cases hj : j < cs.length
  · have hc : cs[j]? = some cs[j] := List.getElem?_eq_getElem hj
    rcases h.old j _ hc with ⟨h1, h2⟩ | ⟨h1, c1, c2, h2, h3, h4⟩
    · rcases g.old j _ hc with ⟨_, g2⟩ | ⟨g1, _⟩
      · rw [h2, g2]
      · exact absurd h1 g1
    · rcases g.old j _ hc with ⟨g1, _⟩ | ⟨_, d1, d2, g2, g3, g4⟩
      · exact absurd g1 h1
      · rw [h2] at g2; cases g2
        rw [h3, g3, h4.det g4]
  · have hl := h.len
    have gl := g.len
    cases ex with
    | none =>
      simp at hl gl
      rw [List.getElem?_eq_none (by omega), List.getElem?_eq_none (by omega)]
    | some k =>
      simp at hl gl
      by_cases he : j = cs.length
      · subst he
        obtain ⟨_, c1, c2, h1, h2, h3⟩ := h.new k rfl
        obtain ⟨_, d1, d2, g1, g2, g3⟩ := g.new k rfl
        rw [h1] at g1; cases g1
        rw [h2, g2, h3.det g3]
      · rw [List.getElem?_eq_none (by omega), List.getElem?_eq_none (by omega)]
/-- the outcome r of a def that began with the cells cs, as its caller sees it; kp: what is handed out is a cell of its own -/
def Shut (kp : Bool) (cs : Cells) : Res Pv → Res Pv → Prop
  | .ok v cs1, .ok w cs2 => ∃ ex, (kp = false → ex = none) ∧ (kp = true → ∃ k, v = .ref k ∧ ex = some k) ∧ ShutC cs cs1 cs2 ex ∧ Fz cs.length ex cs1 v w
  | .exn c fs cs1, .exn d gs cs2 => c = d ∧ ShutC cs cs1 cs2 none ∧ fs.map (·.1) = gs.map (·.1) ∧ FzL cs.length none cs1 (fs.map (·.2)) (gs.map (·.2))
  | _, _ => False
theorem Shut.det {kp : Bool} {cs : Cells} {r a b : Res Pv} (h : Shut kp cs r a) (g : Shut kp cs r b) : a = b := by
  cases r with
  | bad => exact h.elim
  | ok v cs1 =>
    cases a with
    | bad => exact h.elim
    | exn c fs cs2 => exact h.elim
    | ok w cs2 =>
      cases b with
      | bad => exact g.elim
      | exn c fs cs2 => exact g.elim
      | ok w' cs3 =>
        obtain ⟨ex, h1, h2, h3, h4⟩ := h
        obtain ⟨ey, g1, g2, g3, g4⟩ := g
        have e : ex = ey := by
          cases kp with
          | false => rw [h1 rfl, g1 rfl]
          | true =>
            obtain ⟨k, e1, e2⟩ := h2 rfl
            obtain ⟨j, e3, e4⟩ := g2 rfl
            rw [e1] at e3; cases e3
            rw [e2, e4]
        subst e
        rw [h3.det g3, h4.det g4]
  | exn c fs cs1 =>
    cases a with
    | bad => exact h.elim
    | ok c fs => exact h.elim
    | exn d gs cs2 =>
      cases b with
      | bad => exact g.elim
      | ok c fs => exact g.elim
      | exn d' gs' cs3 =>
        obtain ⟨rfl, h1, h2, h3⟩ := h
        obtain ⟨rfl, g1, g2, g3⟩ := g
        rw [h1.det g1, zip_ext (h2.symm.trans g2) (h3.det g3)]
open Classical in
noncomputable def shut (kp : Bool) (m : FN) : FN := fun ps cs => if h : ∃ r, Shut kp cs (m ps cs) r then h.choose else .bad
theorem shut_eq {kp : Bool} {m : FN} {ps : List Pv} {cs : Cells} {r : Res Pv} (h : Shut kp cs (m ps cs) r) : shut kp m ps cs = r := by
  have hx : ∃ r, Shut kp cs (m ps cs) r := ⟨r, h⟩
  unfold shut
  rw [dif_pos hx]
  exact hx.choose_spec.det h
theorem shut_cases (kp : Bool) (m : FN) (ps : List Pv) (cs : Cells) : shut kp m ps cs = .bad ∨ Shut kp cs (m ps cs) (shut kp m ps cs) := by
  by_cases hx : ∃ r, Shut kp cs (m ps cs) r
  · refine .inr ?_
    unfold shut
    rw [dif_pos hx]
    exact hx.choose_spec
  · refine .inl ?_
    unfold shut
    rw [dif_neg hx]
section
variable {K : PySem.W.Frag} {mg : Str → Option Value}
mutual
theorem fz_rep {n : Nat} {ex : Option Nat} {cs1 : Cells} {U1 U2 H1 : Hp} {μ1 μ2 : List Addr} (r1 : Rel0 K mg cs1 μ1 U1 H1) (hU : Ex U1 U2) (hg : ∀ k a, n ≤ k → ex ≠ some k → μ1[k]? = some a → U2 a = H1 a)
    (ho : ∀ k a, k < n → μ1[k]? = some a → μ2[k]? = some a) (hk : ∀ k a, n ≤ k → ex = some k → μ1[k]? = some a → μ2[n]? = some a) : ∀ {p q : Pv} {w : V}, Fz n ex cs1 p q → RepV K mg U1 μ1 p w → RepV K mg U2 μ2 q w
  | _, _, _, .non, r => by cases r; exact .non
  | _, _, _, .bl b, r => by cases r; exact .bl b
  | _, _, _, .int i, r => by cases r; exact .int i
  | _, _, _, .str x, r => by cases r; exact .str x
  | _, _, _, .glo x, r => by cases r with | glo h => exact .glo h
  | _, _, _, .ty t, r => by cases r; exact .ty t
  | _, _, _, .tup f, r => by cases r with | tup s q => exact .tup (hU _ _ s) (fzl_rep r1 hU hg ho hk f q)
  | _, _, _, .lst f, r => by cases r with | lst s q => exact .lst (hU.l s) (fzl_rep r1 hU hg ho hk f q)
  | _, _, _, .obj k f, r => by cases r with | obj g h n q => exact .obj g (hU _ _ h) (k.symm.trans n) (fzl_rep r1 hU hg ho hk f q)
  | _, _, _, .dk k f, r => by cases r with | dk h n q => exact .dk (hU _ _ h) (k.symm.trans n) (fzl_rep r1 hU hg ho hk f q)
  | _, _, _, .dt k f, r => by cases r with | dt h n q => exact .dt (hU _ _ h) (k.symm.trans n) (fzl_rep r1 hU hg ho hk f q)
  | _, _, _, .zk k f, r => by cases r with | zk h n q => exact .zk (hU _ _ h) (k.symm.trans n) (fzl_rep r1 hU hg ho hk f q)
  | _, _, _, .zt k f, r => by cases r with | zt h n q => exact .zt (hU _ _ h) (k.symm.trans n) (fzl_rep r1 hU hg ho hk f q)
  | _, _, _, .old h, r => by cases r with | ref m => exact .ref (ho _ _ h m)
  | _, _, _, .kept h e, r => by cases r with | ref m => exact .ref (hk _ _ h e m)
  | _, _, _, .cl h e c f, r => by
    cases r with
    | ref m =>
      obtain ⟨ws, h1, q⟩ := r1.cel _ _ _ c m
      exact .lst (.of ((hg _ _ h e m).trans h1)) (fzl_rep r1 hU hg ho hk f q)
  | _, _, _, .ci h e c k f, r => by
    cases r with
    | ref m =>
      obtain ⟨C, dx, ws, g, h1, n, q⟩ := r1.cel _ _ _ c m
      exact .obj g ((hg _ _ h e m).trans h1) (k.symm.trans n) (fzl_rep r1 hU hg ho hk f q)
  | _, _, _, .cdk h e c k f, r => by
    cases r with
    | ref m =>
      obtain ⟨ws, h1, n, q⟩ := r1.cel _ _ _ c m
      exact .dk ((hg _ _ h e m).trans h1) (k.symm.trans n) (fzl_rep r1 hU hg ho hk f q)
  | _, _, _, .cdt h e c k f, r => by
    cases r with
    | ref m =>
      obtain ⟨ws, h1, n, q⟩ := r1.cel _ _ _ c m
      exact .dt ((hg _ _ h e m).trans h1) (k.symm.trans n) (fzl_rep r1 hU hg ho hk f q)
theorem fzl_rep {n : Nat} {ex : Option Nat} {cs1 : Cells} {U1 U2 H1 : Hp} {μ1 μ2 : List Addr} (r1 : Rel0 K mg cs1 μ1 U1 H1) (hU : Ex U1 U2) (hg : ∀ k a, n ≤ k → ex ≠ some k → μ1[k]? = some a → U2 a = H1 a)
    (ho : ∀ k a, k < n → μ1[k]? = some a → μ2[k]? = some a) (hk : ∀ k a, n ≤ k → ex = some k → μ1[k]? = some a → μ2[n]? = some a) : ∀ {p q : List Pv} {w : List V}, FzL n ex cs1 p q → RepVs K mg U1 μ1 p w → RepVs K mg U2 μ2 q w
  | _, _, _, .nil, r => by cases r; exact .nil
  | _, _, _, .cons f g, r => by cases r with | cons a b => exact .cons (fz_rep r1 hU hg ho hk f a) (fzl_rep r1 hU hg ho hk g b)
end
theorem fzc_rep {n : Nat} {ex : Option Nat} {cs1 : Cells} {U1 U2 H1 : Hp} {μ1 μ2 : List Addr} (r1 : Rel0 K mg cs1 μ1 U1 H1) (hU : Ex U1 U2) (hg : ∀ k a, n ≤ k → ex ≠ some k → μ1[k]? = some a → U2 a = H1 a)
    (ho : ∀ k a, k < n → μ1[k]? = some a → μ2[k]? = some a) (hk : ∀ k a, n ≤ k → ex = some k → μ1[k]? = some a → μ2[n]? = some a) {c d : Co} {o : Option HO} (f : FzC n ex cs1 c d) (r : RepC K mg U1 μ1 c o) : RepC K mg U2 μ2 d o := by
  cases f with
  | lst f => obtain ⟨xs, h, q⟩ := r; exact ⟨xs, h, fzl_rep r1 hU hg ho hk f q⟩
  | ins k f => obtain ⟨C, dx, ws, g, h, n, q⟩ := r; exact ⟨C, dx, ws, g, h, k.symm.trans n, fzl_rep r1 hU hg ho hk f q⟩
  | dK k f => obtain ⟨ws, h, n, q⟩ := r; exact ⟨ws, h, k.symm.trans n, fzl_rep r1 hU hg ho hk f q⟩
  | dT k f => obtain ⟨ws, h, n, q⟩ := r; exact ⟨ws, h, k.symm.trans n, fzl_rep r1 hU hg ho hk f q⟩
  | dead => exact r
theorem repc_fz {U : Hp} {μ : List Addr} {n : Nat} (hn : μ.length = n) {ex : Option Nat} {cs : Cells} : ∀ {c : Co} {o : Option HO}, RepC K mg U μ c o → FzC n ex cs c c
  | .lst _, _, ⟨_, _, q⟩ => .lst (reps_fz hn q)
  | .ins _ _, _, ⟨_, _, _, _, _, _, q⟩ => .ins rfl (reps_fz hn q)
  | .dK _, _, ⟨_, _, _, q⟩ => .dK rfl (reps_fz hn q)
  | .dT _, _, ⟨_, _, _, q⟩ => .dT rfl (reps_fz hn q)
  | .dead, _, _ => .dead
def keptA (ex : Option Nat) (μ1 : List Addr) : List Addr := (ex.bind fun k => μ1[k]?).toList
theorem keptA_len (ex : Option Nat) (μ1 : List Addr) : (keptA ex μ1).length ≤ 1 := by
  unfold keptA
  cases (ex.bind fun k => μ1[k]?) <;> simp
theorem keptA_nd (ex : Option Nat) (μ1 : List Addr) : (keptA ex μ1).Nodup := by
  unfold keptA
  cases (ex.bind fun k => μ1[k]?) <;> simp
/-- the state behind, as the caller sees it -/
theorem shut_state {cs cs1 cs2 : Cells} {ex : Option Nat} {U H U1 H1 : Hp} {μ μ1 : List Addr} (S : ShutC cs cs1 cs2 ex) (r0 : Rel0 K mg cs μ U H) (g1 : Gr U H μ U1 H1 μ1) (r1 : Rel0 K mg cs1 μ1 U1 H1) :
    ∃ U2 μ2, Gr U H μ U2 H1 μ2 ∧ Rel0 K mg cs2 μ2 U2 H1 ∧ (∀ {p q : Pv} {w : V}, Fz cs.length ex cs1 p q → RepV K mg U1 μ1 p w → RepV K mg U2 μ2 q w) ∧ (∀ {p q : List Pv} {w : List V}, FzL cs.length ex cs1 p q → RepVs K mg U1 μ1 p w → RepVs K mg U2 μ2 q w) ∧ Ex U1 U2 := by
  classical
  have hn : μ.length = cs.length := r0.len
  let U2 : Hp := fun a => if (∃ k, μ1[k]? = some a ∧ cs.length ≤ k ∧ ex ≠ some k) then H1 a else U1 a
  obtain ⟨tl, htl⟩ : ∃ tl, tl = keptA ex μ1 := ⟨_, rfl⟩
  have tlm : ∀ a ∈ tl, ∃ k, ex = some k ∧ μ1[k]? = some a := by
    intro a ha
    rw [htl] at ha
    unfold keptA at ha
    cases hx : ex with
    | none => rw [hx] at ha; simp at ha
    | some k =>
      rw [hx] at ha
      simp only [Option.bind_some, Option.mem_toList] at ha
      exact ⟨k, rfl, ha⟩
  have hU : Ex U1 U2 := fun a o e => by
    show (if _ then H1 a else U1 a) = some o
    split
    · exact r1.vh a o e
    · exact e
  have hH : Ex U2 H1 := fun a o e => by
    have e : (if (∃ k, μ1[k]? = some a ∧ cs.length ≤ k ∧ ex ≠ some k) then H1 a else U1 a) = some o := e
    split at e
    · exact e
    · exact r1.vh a o e
  have hg : ∀ k a, cs.length ≤ k → ex ≠ some k → μ1[k]? = some a → U2 a = H1 a := fun k a h1 h2 h3 => if_pos ⟨k, h3, h1, h2⟩
  have ho : ∀ k a, k < cs.length → μ1[k]? = some a → (μ ++ tl)[k]? = some a := fun k a h1 h2 => by
    rw [List.getElem?_append_left (by rw [hn]; exact h1)]
    obtain ⟨t, rfl⟩ := g1.mm
    rwa [List.getElem?_append_left (by rw [hn]; exact h1)] at h2
  have hk : ∀ k a, cs.length ≤ k → ex = some k → μ1[k]? = some a → (μ ++ tl)[cs.length]? = some a := fun k a h1 h2 h3 => by
    rw [List.getElem?_append_right (by omega), hn, Nat.sub_self]
    rw [htl, h2]; simp [keptA, h3]
  have hout : ∀ k a, μ1[k]? = some a → (k < cs.length ∨ ex = some k) → U2 a = U1 a := fun k a h1 h2 => by
    refine if_neg ?_
    rintro ⟨j, hj, h3, h4⟩
    have : k = j := nd_ix r1.nd h1 hj
    subst this
    rcases h2 with h2 | h2
    · omega
    · exact h4 h2
  have mu1 : ∀ k a, μ[k]? = some a → μ1[k]? = some a := fun k a h => pre_get g1.mm h
  have tl1 : ∀ k a, tl[k]? = some a → k = 0 := fun k a h => by
    have := (List.getElem?_eq_some_iff.mp h).1
    have : tl.length ≤ 1 := by
      rw [htl]; exact keptA_len _ _
    omega
  refine ⟨U2, μ ++ tl, ⟨g1.vv.trans hU, List.prefix_append _ _, fun a o h1 h2 h3 => ?_⟩, ⟨hH, ?_, ?_, fun j c a h1 h2 => ?_, fun j c a h1 h2 h3 => ?_, r1.tab.same hU fun q _ h1 h2 _ _ => ⟨(if_neg fun ⟨k, hk1, _⟩ => h2 (List.mem_of_getElem? hk1)).trans h1, fun z => (List.mem_append.mp z).elim (fun z => h2 (by
    obtain ⟨k, e⟩ := List.mem_iff_getElem?.mp z
    exact List.mem_of_getElem? (mu1 k _ e))) fun z => by
    obtain ⟨k, _, e⟩ := tlm _ z
    exact h2 (List.mem_of_getElem? e)⟩, fun a ps e => by
    have e : (if (∃ k, μ1[k]? = some a ∧ cs.length ≤ k ∧ ex ≠ some k) then H1 a else U1 a) = some (HO.tbl ps) := e
    split at e
    · rename_i hk
      obtain ⟨k, hk1, _⟩ := hk
      have hl : k < cs1.length := by rw [← r1.len]; exact (List.getElem?_eq_some_iff.mp hk1).1
      exact RepC.noTbl (r1.cel k _ a (List.getElem?_eq_getElem hl) hk1) ps e
    · exact r1.ntb a ps e⟩, fun f r => fz_rep r1 hU hg ho hk f r, fun f r => fzl_rep r1 hU hg ho hk f r, hU⟩
  · obtain ⟨a1, a2, a3⟩ := g1.hid a o h1 h2 h3
    refine ⟨a1, ?_, fun z => ?_⟩
    · show (if _ then H1 a else U1 a) = none
      rw [if_neg]
      · exact a2
      · rintro ⟨k, hk1, _⟩
        exact a3 (List.mem_of_getElem? hk1)
    · rcases List.mem_append.mp z with z | z
      · exact h3 z
      · obtain ⟨k, _, hk2⟩ := tlm a z
        exact a3 (List.mem_of_getElem? hk2)
  · rw [List.nodup_append]
    refine ⟨r0.nd, ?_, fun a ha b hb e => ?_⟩
    · rw [htl]; exact keptA_nd _ _
    · subst e
      obtain ⟨k, e1, e2⟩ := tlm a hb
      obtain ⟨j, hj⟩ := List.mem_iff_getElem?.mp ha
      have e : j = k := nd_ix r1.nd (mu1 j a hj) e2
      have := (S.new k e1).1
      have := (List.getElem?_eq_some_iff.mp hj).1
      omega
  · rw [List.length_append, hn, S.len]
    cases hx : ex with
    | none => rw [htl, hx]; simp [keptA]
    | some k =>
      obtain ⟨_, c1, c2, h1, _, _⟩ := S.new k hx
      have hl : k < μ1.length := by rw [r1.len]; exact (List.getElem?_eq_some_iff.mp h1).1
      rw [htl, hx]; simp [keptA, List.getElem?_eq_getElem hl]
  · by_cases hj : j < cs.length
    · rw [List.getElem?_append_left (by rw [hn]; exact hj)] at h2
      have hc : cs[j]? = some cs[j] := List.getElem?_eq_getElem hj
      rcases S.old j _ hc with ⟨q1, q2⟩ | ⟨_, c1, c2, q2, q3, q4⟩
      · rw [q2] at h1; cases h1
        exact fzc_rep r1 hU hg ho hk (repc_fz hn (r0.cel j _ a hc h2)) (r1.cel j _ a q1 (mu1 j a h2))
      · rw [q3] at h1; cases h1
        exact fzc_rep r1 hU hg ho hk q4 (r1.cel j _ a q2 (mu1 j a h2))
    · rw [List.getElem?_append_right (by omega)] at h2
      have h0 := tl1 _ _ h2
      have hj2 : j = cs.length := by omega
      subst hj2
      obtain ⟨k, e1, e2⟩ := tlm a (List.mem_of_getElem? h2)
      obtain ⟨_, c1, c2, q1, q2, q3⟩ := S.new k e1
      rw [q2] at h1; cases h1
      exact fzc_rep r1 hU hg ho hk q3 (r1.cel k _ a q1 e2)
  · by_cases hj : j < cs.length
    · rw [List.getElem?_append_left (by rw [hn]; exact hj)] at h2
      have hc : cs[j]? = some cs[j] := List.getElem?_eq_getElem hj
      rw [hout j a (mu1 j a h2) (.inl hj)]
      rcases S.old j _ hc with ⟨q1, q2⟩ | ⟨_, c1, c2, q2, q3, q4⟩
      · rw [q2] at h1; cases h1
        exact r1.out j _ a q1 (mu1 j a h2) h3
      · rw [q3] at h1; cases h1
        exact r1.out j _ a q2 (mu1 j a h2) (fun z => h3 (by subst z; cases q4; rfl))
    · rw [List.getElem?_append_right (by omega)] at h2
      have h0 := tl1 _ _ h2
      have hj2 : j = cs.length := by omega
      subst hj2
      obtain ⟨k, e1, e2⟩ := tlm a (List.mem_of_getElem? h2)
      obtain ⟨_, c1, c2, q1, q2, q3⟩ := S.new k e1
      rw [q2] at h1; cases h1
      rw [hout k a e2 (.inr e1)]
      exact r1.out k _ a q1 e2 (fun z => h3 (by subst z; cases q3; rfl))
theorem shut_out {kp : Bool} {cs : Cells} {r r' : Res Pv} {E : XK} {U H : Hp} {μ : List Addr} {Q : VK} (S : Shut kp cs r r') (r0 : Rel0 K mg cs μ U H) (h : Out K mg (RepV K mg) E U H μ r' Q) : Out K mg (RepV K mg) E U H μ r Q := by
  cases r with
  | bad => exact S.elim
  | ok v cs1 =>
    cases r' with
    | bad => exact S.elim
    | exn c fs cs2 => exact S.elim
    | ok w cs2 =>
      obtain ⟨ex, _, _, S1, f⟩ := S
      intro x U1 H1 μ1 g1 r1 p1
      obtain ⟨U2, μ2, g2, r2, fz, _, _⟩ := shut_state S1 r0 g1 r1
      exact h x U2 H1 μ2 g2 r2 (fz f p1)
  | exn c fs cs1 =>
    cases r' with
    | bad => exact S.elim
    | ok w cs2 => exact S.elim
    | exn d gs cs2 =>
      obtain ⟨rfl, S1, k, f⟩ := S
      intro C dd U1 H1 μ1 g1 r1 m p1
      obtain ⟨U2, μ2, g2, r2, _, fzl, hU⟩ := shut_state S1 r0 g1 r1
      refine h C dd U2 H1 μ2 g2 r2 m ?_
      rcases p1 with ⟨e1, e2⟩ | ⟨da, ws, e1, e2, e3, e4⟩
      · subst e1
        refine .inl ⟨?_, e2⟩
        cases gs with
        | nil => rfl
        | cons _ _ => cases k
      · exact .inr ⟨da, ws, e1, hU _ _ e2, k.symm.trans e3, fzl f e4⟩
theorem out_shut {kp : Bool} {m : FN} {ps : List Pv} {cs : Cells} {E : XK} {U H : Hp} {μ : List Addr} {Q : VK} (r0 : Rel0 K mg cs μ U H) (h : Out K mg (RepV K mg) E U H μ (shut kp m ps cs) Q) : Out K mg (RepV K mg) E U H μ (m ps cs) Q := by
  rcases shut_cases kp m ps cs with e | S
  · rw [e] at h; exact h.elim
  · exact shut_out S r0 h
variable {P : Program} {w : World} {base : Heap} {f : Addr} {fd : FuncData} {ps : List Str} {k : Nat}
theorem fn_shut {CX : CXT} {n : Nat} {m : FN} {kp : Bool} (F : FnOk P w K mg base CX k f fd ps (spOf K mg n m)) : FnOk P w K mg base CX k f fd ps (spOf K mg n (shut kp m)) :=
  F.imp fun vs H Q E q => by
    obtain ⟨hn, qs, cs, μ, U, r0, rp, q⟩ := q
    exact ⟨hn, qs, cs, μ, U, r0, rp, out_shut r0 q⟩
end
section
variable {kp : Bool} {m : FN} {ps : List Pv} {cs ex : Cells} {v : Pv}
theorem shutC_app : ShutC cs (cs ++ ex) cs none := ⟨by simp, fun j c h => .inl ⟨by rw [List.getElem?_append_left (List.getElem?_eq_some_iff.mp h).1]; exact h, h⟩, fun k h => nomatch h⟩
/-- nothing changed, a plain value -/
theorem shut_val (h : m ps cs = .ok v (cs ++ ex)) (hv : nr v = true) : shut false m ps cs = .ok v cs :=
  shut_eq (by rw [h]; exact ⟨none, fun _ => rfl, (fun z => nomatch z), shutC_app, nr_fz hv⟩)
theorem shut_fz {w : Pv} (h : m ps cs = .ok v (cs ++ ex)) (hv : Fz cs.length none (cs ++ ex) v w) : shut false m ps cs = .ok w cs :=
  shut_eq (by rw [h]; exact ⟨none, fun _ => rfl, (fun z => nomatch z), shutC_app, hv⟩)
theorem shut_obj {k : Nat} {c : Str} {fs : List (Str × Pv)} (h : m ps cs = .ok (.ref k) (cs ++ ex)) (h0 : cs.length ≤ k) (hk : (cs ++ ex)[k]? = some (.ins c fs)) (hx : nrf fs = true) : shut false m ps cs = .ok (.obj c fs) cs :=
  shut_fz h (.ci h0 (fun z => nomatch z) hk rfl (nrf_fz hx))
theorem shut_exn {c : Str} {fs : List (Str × Pv)} (h : m ps cs = .exn c fs (cs ++ ex)) (hx : nrf fs = true) : shut kp m ps cs = .exn c fs cs :=
  shut_eq (by rw [h]; exact ⟨rfl, shutC_app, rfl, nrf_fz hx⟩)
/-- one cell changed -/
theorem shutC_set {k : Nat} {c c0 : Co} (h0 : cs[k]? = some c0) (hf : FzC cs.length none (cs.set k c ++ ex) c c) : ShutC cs (cs.set k c ++ ex) (cs.set k c) none := by
  have hk : k < cs.length := (List.getElem?_eq_some_iff.mp h0).1
  refine ⟨by simp, fun j d h => ?_, fun k h => nomatch h⟩
  have hj : j < cs.length := (List.getElem?_eq_some_iff.mp h).1
  have e : (cs.set k c ++ ex)[j]? = (cs.set k c)[j]? := List.getElem?_append_left (by simpa using hj)
  rw [e]
  by_cases q : k = j
  · subst q
    rw [List.getElem?_set_self hk]
    by_cases hc : c = d
    · subst hc; exact .inl ⟨rfl, rfl⟩
    · exact .inr ⟨fun z => hc (Option.some.inj z), c, c, rfl, rfl, hf⟩
  · rw [List.getElem?_set_ne q]
    exact .inl ⟨h, h⟩
theorem shut_set {k : Nat} {c c0 : Co} (h : m ps cs = .ok v (cs.set k c ++ ex)) (h0 : cs[k]? = some c0) (hf : FzC cs.length none (cs.set k c ++ ex) c c) (hv : nr v = true) : shut false m ps cs = .ok v (cs.set k c) :=
  shut_eq (by rw [h]; exact ⟨none, fun _ => rfl, (fun z => nomatch z), shutC_set h0 hf, nr_fz hv⟩)
/-- a cell that is handed out -/
theorem shut_keep {k : Nat} {c : Co} (h : m ps cs = .ok (.ref k) (cs ++ ex)) (h0 : cs.length ≤ k) (hk : (cs ++ ex)[k]? = some c) (hf : FzC cs.length (some k) (cs ++ ex) c c) : shut true m ps cs = .ok (.ref cs.length) (cs ++ [c]) :=
  shut_eq (by
    rw [h]
    refine ⟨some k, (fun z => nomatch z), fun _ => ⟨k, rfl, rfl⟩, ⟨by simp, fun j d hd => .inl ⟨by rw [List.getElem?_append_left (List.getElem?_eq_some_iff.mp hd).1]; exact hd, by rw [List.getElem?_append_left (List.getElem?_eq_some_iff.mp hd).1]; exact hd⟩, fun j hj => ?_⟩, .kept h0 rfl⟩
    cases hj
    exact ⟨h0, c, c, hk, by simp, hf⟩)
theorem nrs_map {α : Type} {f : α → Pv} : ∀ {L : List α}, (∀ x ∈ L, nr (f x) = true) → nrs (L.map f) = true
  | [], _ => rfl
  | a :: L, h => by
    show (nr (f a) && nrs (L.map f)) = true
    rw [h a List.mem_cons_self, nrs_map fun x hx => h x (List.mem_cons_of_mem _ hx)]; rfl
theorem nrs_all : ∀ {L : List Pv}, nrs L = true ↔ ∀ x ∈ L, nr x = true
  | [] => by simp [nrs]
  | a :: L => by
    unfold nrs
    rw [Bool.and_eq_true_iff, nrs_all]
    simp
@[simp] theorem nr_int (i : Int) : nr (.int i) = true := rfl
@[simp] theorem nr_bl (b : Bool) : nr (.bl b) = true := rfl
@[simp] theorem nr_str (x : Str) : nr (.str x) = true := rfl
@[simp] theorem nr_non : nr .non = true := rfl
@[simp] theorem nr_lst (xs : List Pv) : nr (.lst xs) = nrs xs := by rw [nr]
@[simp] theorem nr_tup (xs : List Pv) : nr (.tup xs) = nrs xs := by rw [nr]
@[simp] theorem nr_obj (c : Str) (fs : List (Str × Pv)) : nr (.obj c fs) = nrf fs := by rw [nr]
@[simp] theorem nr_dk (fs : List (Key × Pv)) : nr (.dk fs) = nrd fs := by rw [nr]
@[simp] theorem nrs_nil : nrs [] = true := rfl
@[simp] theorem nrs_cons (x : Pv) (xs : List Pv) : nrs (x :: xs) = (nr x && nrs xs) := by rw [nrs]
@[simp] theorem nrf_nil : nrf [] = true := rfl
@[simp] theorem nrf_cons (k : Str) (x : Pv) (xs : List (Str × Pv)) : nrf ((k, x) :: xs) = (nr x && nrf xs) := by rw [nrf]
end
end AL
set_option Elab.async false
set_option linter.all false
set_option autoImplicit false
set_option maxRecDepth 100000
set_option maxHeartbeats 4000000
namespace AL
open PySem PySem.Spec PyProof.Rows L2
def objOf (cs : Cells) : Pv → Option (Str × List (Str × Pv))
  | .obj c fs => some (c, fs)
  | .ref k => match cs[k]? with
    | some (.ins c fs) => some (c, fs)
    | _ => none
  | _ => none
@[simp] theorem objOf_obj (cs : Cells) (c : Str) (fs : List (Str × Pv)) : objOf cs (.obj c fs) = some (c, fs) := rfl
section
variable {K : PySem.W.Frag} {mg : Str → Option Value} {U H : Hp} {μ : List Addr} {cs : Cells}
theorem objOf_ok {p : Pv} {v : V} {c : Str} {fs : List (Str × Pv)} (r : Rel0 K mg cs μ U H) (h : RepV K mg U μ p v) (e : objOf cs p = some (c, fs)) : ∃ a C dx ws, v = .ref a ∧ mg c = some (.ref C) ∧ H a = some (.ins C dx ws) ∧ RepF K mg U μ fs ws := by
  cases h with
  | obj g h n q => cases e; exact ⟨_, _, _, _, rfl, g, r.vh _ _ h, n, q⟩
  | @ref k a m =>
    have e : (match cs[k]? with | some (.ins c fs) => some (c, fs) | _ => none) = some (c, fs) := e
    split at e
    · rename_i d gs hk
      cases e
      obtain ⟨C, dx, ws, h1, h2, h3⟩ := r.cel k _ a hk m
      exact ⟨a, C, dx, ws, rfl, h1, h2, h3⟩
    · cases e
  | _ => cases e
theorem RepF.look : ∀ {fs : List (Str × Pv)} {ws : List (Str × V)} {f : Str}, RepF K mg U μ fs ws → (∀ p, fs.lookup f = some p → ∃ w, ws.lookup f = some w ∧ RepV K mg U μ p w) ∧ (fs.lookup f = none → ws.lookup f = none)
  | [], [], f, _ => ⟨(fun p h => nomatch h), fun _ => rfl⟩
  | [], _ :: _, _, h => nomatch h.1
  | _ :: _, [], _, h => nomatch h.1
  | (x, p) :: fs, (y, w) :: ws, f, h => by
    obtain ⟨h1, h2⟩ := h
    simp only [List.map_cons, List.cons.injEq] at h1
    obtain ⟨rfl, h1⟩ := h1
    cases h2 with
    | cons a b =>
      have ih := RepF.look (f := f) (fs := fs) (ws := ws) ⟨h1, b⟩
      by_cases q : (f == x) = true
      · simp only [List.lookup, q]
        exact ⟨fun p' e => ⟨w, rfl, by cases e; exact a⟩, fun e => nomatch e⟩
      · have q : (f == x) = false := by simpa using q
        simp only [List.lookup, q]
        exact ih
def putP (f : Str) (v : Pv) : List (Str × Pv) → List (Str × Pv)
  | [] => [(f, v)]
  | (g, x) :: r => if g = f then (g, v) :: r else (g, x) :: putP f v r
theorem RepF.put {f : Str} {p : Pv} {w : V} (hp : RepV K mg U μ p w) : ∀ {fs : List (Str × Pv)} {ws : List (Str × V)}, RepF K mg U μ fs ws → RepF K mg U μ (putP f p fs) (putF f w ws)
  | [], [], _ => ⟨rfl, .cons hp .nil⟩
  | [], _ :: _, h => nomatch h.1
  | _ :: _, [], h => nomatch h.1
  | (x, q) :: fs, (y, z) :: ws, h => by
    obtain ⟨h1, h2⟩ := h
    simp only [List.map_cons, List.cons.injEq] at h1
    obtain ⟨rfl, h1⟩ := h1
    cases h2 with
    | cons a b =>
      unfold putP putF
      by_cases e : x = f
      · rw [if_pos e, if_pos e]
        exact ⟨by simp only [List.map_cons]; rw [h1], .cons hp b⟩
      · rw [if_neg e, if_neg e]
        obtain ⟨i1, i2⟩ := RepF.put (f := f) hp (fs := fs) (ws := ws) ⟨h1, b⟩
        exact ⟨by simp only [List.map_cons]; rw [i1], .cons a i2⟩
theorem RepF.len {fs : List (Str × Pv)} {ws : List (Str × V)} (h : RepF K mg U μ fs ws) : fs.length = ws.length := by
  have := congrArg List.length h.1
  simpa using this
end
/-- the classes of tab have no f of their own -/
def AtT (K : PySem.W.Frag) (mg : Str → Option Value) (f : Str) (tab : List Str) : Prop := ∀ c, tab.contains c = true → ∀ C, mg c = some (.ref C) → Cls K C ∧ NoAttr K C f
theorem AtT.nil {K : PySem.W.Frag} {mg : Str → Option Value} {f : Str} : AtT K mg f [] := fun c h => by simp at h
theorem AtT.cons {K : PySem.W.Frag} {mg : Str → Option Value} {f c0 : Str} {C0 : Addr} {tab : List Str} (hg : mg c0 = some (.ref C0)) (hc : Cls K C0) (hn : PySem.W.findIn K (.ref C0) f = some none) (r : AtT K mg f tab) : AtT K mg f (c0 :: tab) := fun c h C hm => by
  rw [List.contains_cons, Bool.or_eq_true_iff] at h
  rcases h with h | h
  · have e : c = c0 := by simpa using h
    subst e
    rw [hg] at hm; cases hm
    exact ⟨hc, hn⟩
  · exact r c h C hm
def oAt (tab : List Str) (f : Str) : Pv → Cells → Res Pv := fun x cs => match objOf cs x with
  | some (c, fs) => if tab.contains c = true then match fs.lookup f with
    | some v => .ok v cs
    | none => .bad
    else .bad
  | none => .bad
theorem oAt_obj {tab : List Str} {f c : Str} {fs : List (Str × Pv)} {v : Pv} (h1 : tab.contains c = true) (h2 : fs.lookup f = some v) (cs : Cells) : oAt tab f (.obj c fs) cs = .ok v cs := by
  unfold oAt
  rw [objOf_obj]
  show (if tab.contains c = true then _ else _) = _
  rw [if_pos h1, h2]
def sAttr (tab : List Str) (f : Str) (o e : FE) : FS := fun sl cs => (e sl cs).go sl fun v cs1 => (o sl cs1).go sl fun ov cs2 => match ov with
  | .ref k => match cs2[k]? with
    | some (.ins c fs) => if tab.contains c = true ∧ fs.length < 1000 then .nx sl (cs2.set k (.ins c (putP f v fs))) else .bad
    | _ => .bad
  | _ => .bad
section
variable {X : Cx} {W : WE} {fo fe : FE} {o e : Expr} {f : Str} {tab : List Str} {pos pos' tpos : Pos}
theorem b_at (T : AtT X.K X.mg f tab) (he : PE X o (rdE X.K X.mg W fo)) (hb : attributeBase o f X.env (eval o X.env) = eval o X.env := by rfl) : PE X (.Attribute o f pos) (rdE X.K X.mg W (f1 (oAt tab f) fo)) :=
  PE.le (pe_fld he hb) fun σ H Q q => by
    obtain ⟨sl, cs, μ, U, r0, rs, q⟩ := q
    refine ⟨sl, cs, μ, U, r0, rs, Out.seq q fun x cs1 w U1 H1 μ1 _ g1 r1 p1 h1 => ?_⟩
    unfold oAt at h1
    split at h1
    · rename_i c fs eo
      split at h1
      · rename_i hc
        split at h1
        · rename_i v ev
          obtain ⟨a, C, dx, ws, rfl, hm, hH, hF⟩ := objOf_ok r1 p1 eo
          obtain ⟨u, hu, ru⟩ := (hF.look (f := f)).1 v ev
          obtain ⟨c1, c2⟩ := T c hc C hm
          exact ⟨a, C, dx, ws, u, rfl, hH, c1, c2, hu, out_val r1 ru h1⟩
        · exact h1.elim
      · exact h1.elim
    · exact h1.elim
theorem s_attr (T : AtT X.K X.mg f tab) (ho : PE X o (rdE X.K X.mg W fo)) (he : PE X e (rdE X.K X.mg W fe)) (hs : swapsWith e (some (.Attribute o f pos')) pos.line X.env = pure false := by rfl) : PS X (.Assign [.Attribute o f pos'] e pos) (rdS X.K X.mg W (sAttr tab f fo fe)) :=
  PS.le (ps_fld ho he hs) fun D σ H q => by
    obtain ⟨sl, cs, μ, U, r0, rs, q⟩ := q
    refine ⟨sl, cs, μ, U, r0, rs, OutS.seq q rs fun v cs1 w U1 H1 μ1 _ g1 r1 p1 h1 => ⟨sl, cs1, μ1, U1, r1, rs.mono g1, OutS.seq h1 (rs.mono g1) fun ov cs2 w2 U2 H2 μ2 _ g2 r2 p2 h2 => ?_⟩⟩
    split at h2
    · rename_i k
      split at h2
      · rename_i c fs hk
        split at h2
        · rename_i hc
          cases p2 with
          | ref m =>
            obtain ⟨C, dx, ws, hm, hH, hF⟩ := r2.cel _ _ _ hk m
            obtain ⟨c1, c2⟩ := T c hc.1 C hm
            refine ⟨_, C, dx, ws, rfl, hH, c1, c2, by rw [← hF.len]; exact hc.2, ?_⟩
            obtain ⟨r4, g4⟩ := r2.put (c' := .ins c (putP f v fs)) (o := .ins C dx (putF f w ws)) hk (fun z => nomatch z) m ⟨C, dx, _, hm, rfl, hF.put (p1.mono g2.vv g2.mm)⟩
            exact h2 _ _ _ _ g4 r4 (((rs.mono g1).mono g2).mono g4)
        · exact h2.elim
      · exact h2.elim
    · exact h2.elim
end
section
variable (P : Program) (w : World) (K : PySem.W.Frag) (mg : Str → Option Value) (base : Heap)
/-- the method m of each class of tab, of n arguments beside self -/
def MTab (k n : Nat) (m : Str) (tab : List (Str × FN)) : Prop := ∀ c mf, tab.lookup c = some mf → ∀ C, mg c = some (.ref C) → ∃ f fd ps, Cls K C ∧ Meth K C m f ∧ FnOk P w K mg base (L2.CX P w) k f fd ps (spOf K mg (n + 1) mf) ∧ Binds K fd ps []
end
theorem MTab.nil {P : Program} {w : World} {K : PySem.W.Frag} {mg : Str → Option Value} {base : Heap} {k n : Nat} {m : Str} : MTab P w K mg base k n m [] := fun c mf h => nomatch h
theorem MTab.cons {P : Program} {w : World} {K : PySem.W.Frag} {mg : Str → Option Value} {base : Heap} {j k n : Nat} {m c0 : Str} {C0 f : Addr} {fd : FuncData} {ps : List Str} {mf : FN} {tab : List (Str × FN)} (hg : mg c0 = some (.ref C0)) (hc : Cls K C0) (hm : Meth K C0 m f)
    (F : FnOk P w K mg base (L2.CX P w) j f fd ps (spOf K mg (n + 1) mf)) (hb : Binds K fd ps []) (hj : j ≤ k) (r : MTab P w K mg base k n m tab) : MTab P w K mg base k n m ((c0, mf) :: tab) := fun c mf' h C hC => by
  by_cases q : (c == c0) = true
  · simp only [List.lookup, q] at h
    have e : c = c0 := by simpa using q
    subst e
    cases h
    rw [hg] at hC; cases hC
    exact ⟨f, fd, ps, hc, hm, F.mono hj, hb⟩
  · have q : (c == c0) = false := by simpa using q
    simp only [List.lookup, q] at h
    exact r c mf' h C hC
def oMth (m : Str) (tab : List (Str × FN)) (ov : Pv) (cs : Cells) : Option FN := match objOf cs ov with
  | some (c, fs) => match fs.lookup m with
    | none => tab.lookup c
    | some _ => none
  | none => none
def fMth (m : Str) (tab : List (Str × FN)) (o : FE) (t : FA) : FE := fun sl cs => (o sl cs).bind fun ov cs1 => match oMth m tab ov cs1 with
  | some mf => (t sl cs1).bind fun vs cs2 => mf (ov :: vs) cs2
  | none => .bad
section
variable {X : Cx} {W : WE} {fo : FE} {t : FA} {o e : Expr} {es : List Expr} {m : Str} {tab : List (Str × FN)} {k n : Nat} {pos apos : Pos} {pl : Sem Bool}
theorem b_mth0 (T : MTab X.prog X.w X.K X.mg X.base k 0 m tab) (hr : Room k X.A) (tk : Takes X W.w) (he : PE X o (rdE X.K X.mg W fo))
    (ht : eval (.Call (.Attribute o m apos) [] [] pos) X.env = (do
      let ov ← eval o X.env
      standAt apos.atName
      let (f, first) ← holding [ov] (getMethod ov m pl)
      callWith pos f first (backTo pos (starEach [] X.env)) (backToKw pos (keywordEach [] X.env))) := by rfl) :
    PE X (.Call (.Attribute o m apos) [] [] pos) (rdE X.K X.mg W (fMth m tab fo fNil)) := by
  refine ⟨fun pins s σ H Q I h => ?_⟩
  obtain ⟨sl, cs, μ, U, r0, rs, h⟩ := h
  have hrun := he.run pins s σ H (fun w H1 => ∃ ov cs1 U1 μ1, Gr U H μ U1 H1 μ1 ∧ Rel0 X.K X.mg cs1 μ1 U1 H1 ∧ RepV X.K X.mg U1 μ1 ov w ∧ Out X.K X.mg (RepV X.K X.mg) (fun c d H => W.w c d σ H) U1 H1 μ1 (match oMth m tab ov cs1 with
    | some mf => (fNil sl cs1).bind fun vs cs2 => mf (ov :: vs) cs2
    | none => .bad) Q) I ⟨sl, cs, μ, U, r0, rs, Out.seq h fun ov cs1 w U1 H1 μ1 _ g1 r1 p1 h1 => ⟨ov, cs1, U1, μ1, g1, r1, p1, h1⟩⟩
  refine PySem.W.methodCall_KW (pl := pl) (thn hrun fun u s1 ⟨x, H1, I1, rx, ov, cs1, U1, μ1, g1, r1, p1, h1⟩ => ?_) ht
  split at h1
  case h_2 => exact h1.elim
  rename_i mf emf
  unfold oMth at emf
  split at emf
  case h_2 => cases emf
  rename_i c fs eo
  split at emf
  case h_2 => cases emf
  rename_i hnf
  obtain ⟨a, C, dx, ws, rfl, hm, hH, hF⟩ := objOf_ok r1 p1 eo
  obtain ⟨f, fd, ps, hc, hmt, F, hb⟩ := T c mf emf C hm
  obtain rfl : u = Value.ref a := rx
  refine getmeth_ok I1 hH hc hmt ((hF.look (f := m)).2 hnf) ?_
  have h1 : Out X.K X.mg (RepV X.K X.mg) (fun c d H => W.w c d σ H) U1 H1 μ1 (mf [ov] cs1) Q := h1
  exact PySem.W.callWith_K0 (first := [.ref a]) I1.kIn hmt.kp (run_fnS (us := [.ref a]) (vs := [.ref a]) F hr hb (passAt tk σ) I1 (.cons rfl .nil) ⟨rfl, [ov], cs1, μ1, U1, r1, .cons p1 .nil, h1⟩)
end
end AL
set_option Elab.async false
set_option linter.all false
set_option autoImplicit false
set_option maxRecDepth 100000
set_option maxHeartbeats 4000000
namespace AL
open PySem PySem.Spec PyProof.Rows L2
def mkRaw (c : Str) (mi : FN) : FN := fun ps cs => (mi (.ref cs.length :: ps) (cs ++ [.ins c []])).bind fun v cs1 => match v with
  | .non => .ok (.ref cs.length) cs1
  | _ => .bad
section
variable (P : Program) (w : World) (K : PySem.W.Frag) (mg : Str → Option Value) (base : Heap)
/-- the class c, made of n arguments by its __init__ -/
def MkB (k n : Nat) (c : Str) (mi : FN) : Prop := ∃ C f fd ps, mg c = some (.ref C) ∧ Mk K C f ∧ FnOk P w K mg base (L2.CX P w) k f fd ps (spOf K mg (n + 1) mi) ∧ Binds K fd ps []
end
section
variable {X : Cx} {CX : CXT} {k : Nat} {f C : Addr} {fd : FuncData} {ps : List Str} {sp : Sp} {E : L2.St → XK}
theorem run_makeS {pins : List (Addr × Obj)} {σ : L2.St} {H : Hp} {s : Shared} {Q : VK} {us : List Value} {vs : List V} (M : Mk X.K C f) (F : FnOk X.prog X.w X.K X.mg X.base CX k f fd ps sp) (hr : Room (k + 1) X.A) (hb : Binds X.K fd ps [])
    (hx : PassesAt CX X σ (E σ)) (I : Inv X pins σ H s) (r : Vals vs us)
    (h : ∀ x dx, H x = none → H dx = none → dx ≠ x → sp (.ref x :: vs) (upd (upd H dx (.own x)) x (.ins C dx [])) (fun v H2 => v = .non ∧ Q (.ref x) H2) (E σ)) :
    wpAny (model X.prog X.w) X.A (call (.ref C) us) (EP X pins σ Q) X.xe s := by
  have hq := h (s.heap.objs.size + 1) s.heap.objs.size (I.hok.fresh (Nat.le_succ _)) (I.hok.fresh (Nat.le_refl _)) (Nat.ne_of_lt (Nat.lt_succ_self _))
  have I2 := Inv.made (C := C) I
  have r2 : Vals (V.ref (s.heap.objs.size + 1) :: vs) (Value.ref (s.heap.objs.size + 1) :: us) := .cons rfl r
  have hl : (Value.ref (s.heap.objs.size + 1) :: us).length = ps.length := by
    have e := r2.length
    rw [F.len _ _ _ _ hq] at e
    exact e.symm
  have b := hb { s with heap := (s.heap.push PySem.W.emptyDict).push (PySem.W.instObj C s.heap.objs.size) } (Value.ref (s.heap.objs.size + 1) :: us) I2.kIn (by rw [List.append_nil]; exact hl)
  rw [List.append_nil] at b
  refine wpAny_call (make_map (f := f) I.kIn M.makes M.init (beq_iff_eq.mp M.fn) (codeAny_mono (F.run _ X.stack _ _ ⟨Value.ref (s.heap.objs.size + 1) :: us, []⟩ (Value.ref (s.heap.objs.size + 1) :: us) _ _ (E σ) (hr.make C us [])
    (I2.env0.make C us []) b r2 hq) fun r s' hq' => ?_))
  cases r with
  | error e => exact hx pins _ _ e s' I2 hq'
  | ok fl =>
    cases fl with
    | ret u =>
      obtain ⟨v, H', I3, rv, ev, q3⟩ := I2.after hq'
      subst ev
      exact ⟨rv, ⟨V.ref (s.heap.objs.size + 1), H', I3, rfl, q3⟩⟩
    | next => exact False.elim hq'
    | brk => exact False.elim hq'
    | cont => exact False.elim hq'
end
section
variable {K : PySem.W.Frag} {mg : Str → Option Value} {U H : Hp} {μ : List Addr} {cs : Cells}
theorem make_sp {E : XK} {Q : VK} {c : Str} {C x dx : Addr} {mi : FN} {ps : List Pv} {vs : List V} {n : Nat} (hn : vs.length = n) (r : Rel0 K mg cs μ U H) (q : RepVs K mg U μ ps vs) (hC : mg c = some (.ref C)) (h : Out K mg (RepV K mg) E U H μ (mkRaw c mi ps cs) Q)
    (hx : H x = none) (hdx : H dx = none) (ne : dx ≠ x) : spOf K mg (n + 1) mi (.ref x :: vs) (upd (upd H dx (.own x)) x (.ins C dx [])) (fun v H2 => v = .non ∧ Q (.ref x) H2) E := by
  obtain ⟨r1, g1⟩ := r.hidden (o := .own x) hdx
  have hx1 : upd H dx (.own x) x = none := by rw [upd_ne (Ne.symm ne)]; exact hx
  obtain ⟨r2, g2⟩ := r1.hidden (o := .ins C dx []) hx1
  have hm : x ∉ μ := fun z => r.there z hx
  have pm : μ <+: μ ++ [x] := List.prefix_append _ _
  have r3 := r2.cell (p := x) (c := .ins c []) ⟨C, dx, [], hC, upd_same, rfl, .nil⟩ (r.vh.none hx) hm
  have g12 := g1.trans g2
  have g3 : Gr U H μ U (upd (upd H dx (.own x)) x (.ins C dx [])) (μ ++ [x]) := ⟨Ex.refl _, pm, fun a o h1 h2 h3 => by
    obtain ⟨a1, a2, a3⟩ := g12.hid a o h1 h2 h3
    refine ⟨a1, a2, fun z => ?_⟩
    rcases List.mem_append.mp z with z | z
    · exact a3 z
    · exact ne_of_none h1 hx (by simpa using z)⟩
  have hk : (μ ++ [x])[cs.length]? = some x := by rw [← r.len, List.getElem?_append_right (Nat.le_refl _), Nat.sub_self]; rfl
  refine ⟨by rw [List.length_cons, hn], .ref cs.length :: ps, cs ++ [.ins c []], μ ++ [x], U, r3, .cons (.ref hk) (q.mono (Ex.refl _) pm), ?_⟩
  have h1 := Out.later g3 h
  unfold mkRaw at h1
  refine Out.seq h1 fun v cs1 wv U1 H1 μ1 _ g4 r4 p4 h4 => ?_
  split at h4
  · cases p4
    exact ⟨rfl, h4 _ _ _ _ Gr.refl r4 (.ref (pre_get g4.mm hk))⟩
  · exact h4.elim
end
section
variable {X : Cx} {W : WE} {t : FA} {k n : Nat} {c : Str} {mi : FN} {kp : Bool} {p pos : Pos} {e : Expr} {es : List Expr}
theorem b_make (kp : Bool) (M : MkB X.prog X.w X.K X.mg X.base k n c mi) (hr : Room (k + 1) X.A) (tk : Takes X W.w) (ha : PA X (e :: es) (rdA X.K X.mg W t)) (hl : LenA t n) (hg : Gl X c := by rfl) (hdb : (c == ("__debug__" : Str)) = false := by decide)
    (he : starEach (e :: es) X.env = (false, eval e X.env) :: starEach es X.env := by rfl) (hpl : (backTo pos (starEach es X.env)).any (·.1) = false := by rfl) : PE X (.Call (.Name c p) (e :: es) [] pos) (rdE X.K X.mg W (fCall (shut kp (mkRaw c mi)) t)) := by
  obtain ⟨C, f, fd, ps, hC, hM, F, hb⟩ := M
  refine ⟨fun pins s σ H Q I h => ?_⟩
  obtain ⟨sl, cs, μ, U, r0, rs, h⟩ := h
  refine wpAny_Call_Name_kw (ld_glob I hg hC ?_ hdb)
  have hargs := ha.run pos pins s σ H (fun vs H1 => ∀ x dx, H1 x = none → H1 dx = none → dx ≠ x → spOf X.K X.mg (n + 1) mi (.ref x :: vs) (upd (upd H1 dx (.own x)) x (.ins C dx [])) (fun v H2 => v = .non ∧ Q (.ref x) H2) (L2.WE W.w σ)) I
    ⟨sl, cs, μ, U, r0, rs, Out.seq h fun vs cs1 ws U1 H1 μ1 ev g1 r1 p1 h1 x dx hx hdx ne => make_sp (by rw [← p1.length]; exact hl _ _ _ _ ev) r1 p1 hC (out_shut r1 h1) hx hdx ne⟩
  refine PySem.W.callWith_K (h₀ := X.base) I.ok.mod.kin hM.kp (thn hargs fun us s1 ⟨vs, H1, I1, r, q⟩ => ⟨I1.kIn, ?_⟩) he hpl
  exact run_makeS hM F hr hb (passAt tk σ) I1 r q
end
/-- what isinstance asks of an instance's class -/
structure InsK (K : PySem.W.Frag) (C : Addr) : Prop where
  cl : Cls K C
  ha : PySem.W.findIn K (.ref C) "__class__" = some (some (.builtin "object.__class__"))
  hn : PySem.W.specialIn K (.builtin "object.__class__") "__get__" = some (some (.builtin "getset_descriptor.__get__"))
  htk : PySem.W.takesIn K (.builtin "object.__class__") = some true
  hm : PySem.W.mroIn K C (.type "object") = some true
/-- a class, by its name; the answers for instances of own classes and for built-in data -/
structure Iso where
  cls : Str
  own : List (Str × Bool)
  bui : List (String × Bool)
def IsoT (K : PySem.W.Frag) (mg : Str → Option Value) (D : Addr) (tab : List (Str × Bool)) : Prop := ∀ c b, tab.lookup c = some b → ∀ C, mg c = some (.ref C) → InsK K C ∧ PySem.W.kitOne K (.ref C) (.ref D) = some b
def IsoU (K : PySem.W.Frag) (D : Addr) (tab : List (String × Bool)) : Prop := ∀ t b, tab.lookup t = some b → PySem.W.kitOne K (.type t) (.ref D) = some b
def IsoOk (K : PySem.W.Frag) (mg : Str → Option Value) (i : Iso) : Prop := ∃ D, mg i.cls = some (.ref D) ∧ IsoT K mg D i.own ∧ IsoU K D i.bui
theorem IsoT.nil {K : PySem.W.Frag} {mg : Str → Option Value} {D : Addr} : IsoT K mg D [] := fun c b h => nomatch h
theorem IsoT.cons {K : PySem.W.Frag} {mg : Str → Option Value} {D C0 : Addr} {c0 : Str} {b0 : Bool} {tab : List (Str × Bool)} (hg : mg c0 = some (.ref C0)) (hc : InsK K C0) (hk : PySem.W.kitOne K (.ref C0) (.ref D) = some b0) (r : IsoT K mg D tab) : IsoT K mg D ((c0, b0) :: tab) := fun c b h C hC => by
  rcases look_cons h with ⟨rfl, rfl⟩ | h
  · rw [hg] at hC; cases hC
    exact ⟨hc, hk⟩
  · exact r c b h C hC
theorem IsoU.nil {K : PySem.W.Frag} {D : Addr} : IsoU K D [] := fun c b h => nomatch h
theorem IsoU.cons {K : PySem.W.Frag} {D : Addr} {t0 : String} {b0 : Bool} {tab : List (String × Bool)} (hk : PySem.W.kitOne K (.type t0) (.ref D) = some b0) (r : IsoU K D tab) : IsoU K D ((t0, b0) :: tab) := fun t b h => by
  by_cases q : (t == t0) = true
  · simp only [List.lookup, q] at h
    have e : t = t0 := by simpa using q
    subst e
    cases h
    exact hk
  · have q : (t == t0) = false := by simpa using q
    simp only [List.lookup, q] at h
    exact r t b h
def isoOne (i : Iso) (x : Pv) (cs : Cells) : Option Bool := match objOf cs x with
  | some (c, _) => i.own.lookup c
  | none => match pyTy cs x with
    | some t => i.bui.lookup t
    | none => none
def isoAny : List Iso → Pv → Cells → Option Bool
  | [], _, _ => some false
  | i :: is, x, cs => match isoOne i x cs with
    | some true => some true
    | some false => isoAny is x cs
    | none => none
def oIso (is : List Iso) : Pv → Cells → Res Pv := fun x cs => match isoAny is x cs with
  | some b => .ok (.bl b) cs
  | none => .bad
section
variable {K : PySem.W.Frag} {mg : Str → Option Value} {U H : Hp} {μ : List Addr} {cs : Cells}
/-- what isinstance finds, one class behind the other -/
inductive IsoL (K : PySem.W.Frag) (mg : Str → Option Value) : List Iso → List Addr → Prop
  | nil : IsoL K mg [] []
  | cons {i : Iso} {D : Addr} {is : List Iso} {Ds : List Addr} : mg i.cls = some (.ref D) → IsoT K mg D i.own → IsoU K D i.bui → IsoL K mg is Ds → IsoL K mg (i :: is) (D :: Ds)
theorem iso_any {x : Pv} {v : V} (r : Rel0 K mg cs μ U H) (h : RepV K mg U μ x v) {t : Value} (ht : (∃ c fs C, objOf cs x = some (c, fs) ∧ mg c = some (.ref C) ∧ t = .ref C) ∨ (objOf cs x = none ∧ ∃ n, pyTy cs x = some n ∧ t = .type n)) :
    ∀ {is : List Iso} {Ds : List Addr} {b : Bool}, IsoL K mg is Ds → isoAny is x cs = some b → PySem.W.kitAny K t (Ds.map Value.ref) = some b
  | [], _, b, .nil, e => by cases e; exact kitAny_nil
  | i :: is, _, b, .cons (D := D) (Ds := Ds) hD T T2 L, e => by
    unfold isoAny at e
    have one : ∀ b, isoOne i x cs = some b → PySem.W.kitOne K t (.ref D) = some b := fun b eb => by
      unfold isoOne at eb
      rcases ht with ⟨c, fs, C, eo, hC, rfl⟩ | ⟨eo, n, en, rfl⟩
      · rw [eo] at eb
        exact (T c b eb C hC).2
      · rw [eo, en] at eb
        exact T2 n b eb
    split at e
    · rename_i e1
      cases e
      exact kitAny_cons (one _ e1) (fun z => nomatch z) fun _ => rfl
    · rename_i e1
      exact kitAny_cons (one _ e1) (fun _ => iso_any r h ht L e) fun z => nomatch z
    · cases e
theorem iso_tyx {x : Pv} {v : V} (r : Rel0 K mg cs μ U H) (h : RepV K mg U μ x v) {is : List Iso} {Ds : List Addr} {b : Bool} (L : IsoL K mg is Ds) (hne : is ≠ []) (e : isoAny is x cs = some b) :
    ∃ t, TyX K H v t ∧ PySem.W.kitAny K t (Ds.map Value.ref) = some b := by
  cases L with
  | nil => exact absurd rfl hne
  | @cons i D is' Ds' hD T T2 L =>
    cases eo : objOf cs x with
    | some cf =>
      obtain ⟨c, fs⟩ := cf
      have e2 : ∃ b', isoOne i x cs = some b' := by
        unfold isoAny at e
        split at e
        · exact ⟨_, by assumption⟩
        · exact ⟨_, by assumption⟩
        · cases e
      obtain ⟨b', e2⟩ := e2
      unfold isoOne at e2
      rw [eo] at e2
      obtain ⟨a, C, dx, ws, rfl, hm, hH, hF⟩ := objOf_ok r h eo
      obtain ⟨hi, hk⟩ := T c b' e2 C hm
      exact ⟨.ref C, .base (.ins hH hi.cl hi.ha hi.hn hi.htk hi.hm), iso_any r h (.inl ⟨c, fs, C, eo, hm, rfl⟩) (.cons hD T T2 L) e⟩
    | none =>
      have e2 : ∃ b', isoOne i x cs = some b' := by
        unfold isoAny at e
        split at e
        · exact ⟨_, by assumption⟩
        · exact ⟨_, by assumption⟩
        · cases e
      obtain ⟨b', e2⟩ := e2
      unfold isoOne at e2
      rw [eo] at e2
      cases en : pyTy cs x with
      | some n => exact ⟨.type n, pyTy_ok r h en, iso_any r h (.inr ⟨eo, n, en, rfl⟩) (.cons hD T T2 L) e⟩
      | none => rw [en] at e2; cases e2
end
section
variable {X : Cx} {W : WE} {f : FE} {a : Expr} {c c1 c2 : Str} {p p1 p2 p3 pt pos : Pos}
/-- an own class as a value -/
theorem b_cls {C : Addr} (hm : X.mg c = some (.ref C)) (hg : Gl X c := by rfl) (hd : (c == ("__debug__" : Str)) = false := by decide) : PE X (.Name c pos) (rdE X.K X.mg W (fCon (.glo c))) :=
  PE.le (pe_glob hg hm (show RelV (.ref C) _ from rfl) hd) fun σ H Q h => rd_con (fun _ _ => .glo hm) σ H Q h
theorem b_iso {i : Iso} (T : IsoOk X.K X.mg i) (hmi : X.mg "isinstance" = none) (ha : PE X a (rdE X.K X.mg W f)) (hgi : Gl X "isinstance" := by rfl) (hg : Gl X i.cls := by rfl) (hd : (i.cls == ("__debug__" : Str)) = false := by decide)
    (he : starEach [a, .Name i.cls p2] X.env = (false, eval a X.env) :: starEach [.Name i.cls p2] X.env := by rfl) (he2 : starEach [.Name i.cls p2] X.env = (false, eval (.Name i.cls p2) X.env) :: starEach [] X.env := by rfl)
    (hpl : (backTo pos (starEach [.Name i.cls p2] X.env)).any (·.1) = false := by rfl) : PE X (.Call (.Name "isinstance" p) [a, .Name i.cls p2] [] pos) (rdE X.K X.mg W (f1 (oIso [i]) f)) := by
  obtain ⟨D, hD, T1, T2⟩ := T
  have hb : PE X (.Name i.cls p2) (rdE X.K X.mg W (fCon (.glo i.cls))) := b_cls hD hg hd
  refine PE.le (pe_callB call_isi hgi hmi (by decide +kernel) (a_cons ha (a_cons hb a_nil he2) he) (by decide) (by decide) he hpl) fun σ H Q q => ?_
  obtain ⟨sl, cs, μ, U, r0, rs, q⟩ := q
  refine ⟨sl, cs, μ, U, r0, rs, ?_⟩
  show Out X.K X.mg (RepVs X.K X.mg) _ U H μ ((f sl cs).bind fun v cs1 => .ok [v, .glo i.cls] cs1) _
  have q : Out X.K X.mg (RepV X.K X.mg) (fun c d H => W.w c d σ H) U H μ ((f sl cs).bind fun x cs1 => oIso [i] x cs1) Q := q
  cases hf : f sl cs with
  | bad => rw [hf] at q; exact q.elim
  | exn c fs cs1 => rw [hf] at q; exact q
  | ok x cs1 =>
    rw [hf] at q
    intro ws U1 H1 μ1 g1 r1 p1
    have q := Out.later g1 q
    have q : Out X.K X.mg (RepV X.K X.mg) (fun c d H => W.w c d σ H) U1 H1 μ1 (oIso [i] x cs1) Q := q
    cases p1 with
    | cons h1 h2 =>
      cases h2 with
      | cons h2 h3 =>
        cases h3
        cases h2 with
        | glo hm =>
          rw [hD] at hm; cases hm
          unfold oIso at q
          split at q
          · rename_i b eb
            obtain ⟨t, ht, hk⟩ := iso_tyx r1 h1 (.cons hD T1 T2 .nil) (by simp) eb
            refine ⟨_, _, t, .ref D, b, rfl, .own D, ht, ?_, out_val r1 (.bl _) q⟩
            have hk : PySem.W.kitAny X.K t [.ref D] = some b := hk
            cases h1k : PySem.W.kitOne X.K t (.ref D) with
            | some b' =>
              have := kitAny_cons (cs := []) (r := b') h1k (fun z => by rw [z]; exact kitAny_nil) (fun z => z)
              rw [this] at hk
              exact hk
            | none =>
              unfold PySem.W.kitAny at hk
              rw [h1k] at hk
              cases hk
          · exact q.elim
end
end AL
set_option Elab.async false
set_option linter.all false
set_option autoImplicit false
set_option maxRecDepth 100000
set_option maxHeartbeats 4000000
namespace AL
open PySem PySem.Spec PyProof.Rows L2 PySem.W
/-- a heap without the object at k -/
def lessAt (h : Heap) (k : Addr) : Heap := if hk : k < h.objs.size then { h with objs := h.objs.set k { cls := .none, data := .freed } } else h
theorem lessAt_self (h : Heap) (k : Addr) : (lessAt h k).get? k = none := by
  unfold lessAt
  split
  · rename_i hk
    unfold Heap.get?
    simp [hk]
  · rename_i hk
    exact Heap.get?_none_of_le (Nat.not_lt.mp hk)
theorem lessAt_ne {h : Heap} {k b : Addr} (n : b ≠ k) : (lessAt h k).get? b = h.get? b := by
  unfold lessAt
  split
  · rename_i hk
    unfold Heap.get?
    simp [Array.getElem?_set, Ne.symm n]
  · rfl
section
variable {X : Cx} {pins : List (Addr × Obj)} {σ : L2.St} {H : Hp} {s : Shared}
theorem inv_frs (I : Inv X pins σ H s) {a : Addr} (h : s.heap.get? a = none) : a ∉ frs X.stack := fun hb => by
  obtain ⟨_, o, ho, _⟩ := I.stack.mem hb
  rw [h] at ho; cases ho
/-- an object that nobody speaks of is changed -/
theorem inv_chg {k : Addr} {h' : Heap} {t' : Nat} {o' : Obj} (I : Inv X pins σ H s) (hk : H k = none) (k0 : X.s_0.heap.objs.size ≤ k) (kl : k ≠ X.env.locals) (kc : ∀ x c, X.env.cells.lookup x = some c → c ≠ k) (kp : ∀ p ∈ X.pn ++ pins, p.1 ≠ k) (kf : k ∉ frs X.stack)
    (ks : ∀ b u, b ≠ k → s.heap.get? b = some u → h'.get? b = some u) (ho : h'.get? k = some o') : Inv X pins σ H { s with heap := h', toks := t' } := by
  have un : Un (frs X.stack) [k] H H s.heap h' := ⟨fun b o q _ _ hx => ks b o (fun z => hx (by simp [z])) q, fun b o q _ _ hx => ⟨o.slots, ks b o (fun z => hx (by simp [z])) q⟩, fun _ _ _ n _ => n, fun b o q hx => ⟨o, ks b o (fun z => hx (by simp [z])) q⟩, fun _ _ q => q, fun _ _ _ q => q, fun _ ps q => ⟨#[], by rw [q]; simp⟩⟩
  have hok : HOk X.prog X.w H h' := fun a o e => (I.hok a o e).stay (fun b u hb q => ks b u (fun z => by
    subst z
    rcases hb with rfl | hb
    · rw [hk] at e; cases e
    · rw [hk] at hb; cases hb) q) (fun _ q => q) fun _ _ q => q
  exact I.call (h' := h') (g' := s.gens) (d' := s.drawn) (t' := t') (ch := [k]) un hok I.bare fun b hb => by
    have e : b = k := by simpa using hb
    subst e
    exact ⟨.inr k0, kl, kc, kp⟩
/-- what the loop over the items keeps -/
structure KeyJ (X : Cx) (pins : List (Addr × Obj)) (σ : L2.St) (H : Hp) (kS a : Addr) (e1 : Nat) (ds : List PyData) (i : Nat) (s : Shared) : Prop where
  ex : ∃ Hi kA e ks, Inv X pins σ Hi s ∧ Ek X.K H Hi ∧ Hi kS = none ∧ Hi a = none ∧ s.heap.get? kS = some (seqObj "list" kA e) ∧ s.heap.get? a = some (seqObj "list" #[] e1) ∧ Vals ks kA.toList ∧ DpAll X.K Hi ks (ds.take i)
theorem dpAll_ex {K : PySem.W.Frag} {H H' : Hp} (x : Ek K H H') : ∀ {ks : List V} {ds : List PyData}, DpAll K H ks ds → DpAll K H' ks ds := by
  have key : (∀ {v : V} {d : PyData}, Dp K H v d → Dp K H' v d) ∧ True := ⟨fun {v d} h => by
    induction h using Dp.rec (motive_2 := fun vs ds _ => DpAll K H' vs ds) with
    | non => exact .non
    | bl b => exact .bl b
    | int i => exact .int i
    | str x => exact .str x
    | lst s _ ih => exact .lst (x.l s) ih
    | tup s _ ih => exact .tup (x.tp s) ih
    | nil => exact .nil
    | cons _ _ h1 h2 => exact .cons h1 h2, trivial⟩
  intro ks ds h
  induction h using DpAll.rec (motive_1 := fun v d _ => Dp K H' v d) with
  | non => exact .non
  | bl b => exact .bl b
  | int i => exact .int i
  | str x => exact .str x
  | lst s _ ih => exact .lst (x.l s) ih
  | tup s _ ih => exact .tup (x.tp s) ih
  | nil => exact .nil
  | cons _ _ h1 h2 => exact .cons h1 h2
theorem dpAll_snoc {K : PySem.W.Frag} {H : Hp} {v : V} {d : PyData} (hv : Dp K H v d) : ∀ {ks : List V} {ds : List PyData}, DpAll K H ks ds → DpAll K H (ks ++ [v]) (ds ++ [d])
  | _, _, .nil => .cons hv .nil
  | _, _, .cons h t => .cons h (dpAll_snoc hv t)
theorem readsAll_eachIs {h : Heap} : ∀ {vs : List Value} {ds : List PyData} {as : List Addr}, ReadsAll h vs ds as → EachIs (fun v d => ∃ as, Reads h v d as) vs ds
  | _, _, _, .nil => .nil
  | _, _, _, .cons r t => .cons ⟨_, r⟩ (readsAll_eachIs t)
theorem dpAll_len {K : PySem.W.Frag} {H : Hp} : ∀ {ks : List V} {ds : List PyData}, DpAll K H ks ds → ks.length = ds.length
  | _, _, .nil => rfl
  | _, _, .cons _ t => by rw [List.length_cons, List.length_cons, dpAll_len t]
theorem vals_at : ∀ {xs : List V} {us : List Value} {j : Nat} {x : V} {u : Value}, Vals xs us → xs[j]? = some x → us[j]? = some u → RelV x u
  | _, _, _, _, _, .nil, h, _ => by simp at h
  | _, _, 0, _, _, .cons r _, h1, h2 => by
    simp at h1 h2
    subst h1; subst h2; exact r
  | _, _, j + 1, _, _, .cons _ t, h1, h2 => vals_at (j := j) t (by simpa using h1) (by simpa using h2)
theorem ne_far {a b : Addr} {n : Nat} (h1 : n ≤ a) (h2 : b < n) : a ≠ b := Nat.ne_of_gt (Nat.lt_of_lt_of_le h2 h1)
variable {k : Nat} {f : Addr} {fd : FuncData} {ps : List Str} {sp : Sp}
theorem sort_key_run {l : Addr} {xs : List V} {ds : List PyData} {Q : VK} (I : Inv X pins σ H s) (hl : SqL X.K H l xs) (F : FnOk X.prog X.w X.K X.mg X.base (L2.CX X.prog X.w) k f fd ps sp) (hb : Binds X.K fd ps []) (hr : Room (k + 2) X.A)
    (hlen : ds.length = xs.length) (hal : AllAlike ds) (hsk : Sortable ds) (hdep : ∀ d ∈ ds, d.depth ≤ 64)
    (turn : ∀ (i : Nat) (x : V) (d : PyData), xs[i]? = some x → ds[i]? = some d → ∀ H', Ek X.K H H' → sp [x] H' (fun v H2 => Ek X.K H' H2 ∧ Dp X.K H2 v d) (fun _ _ _ => False))
    (h : ∀ p H' out, H p = none → Ek X.K H H' → H' p = none → EachIs (fun (x : V) (q : V × PyData) => x = q.1) out ((xs.zip ds).mergeSort (dataLe false Prod.snd)) → Q (.ref p) (upd H' p (.lst out))) :
    wpAny (model X.prog X.w) X.A (call (.builtin "sorted") [.ref l] [(Str.ofString "key", .ref f)]) (EP X pins σ Q) X.xe s := by
  obtain ⟨its, rv, hpl, hz⟩ := I.list hl
  have hln : its.length = xs.length := rv.length.symm
  have hZ : its.length ≤ sizeLine := by rw [hln]; exact hz
  refine sorted_of_sort (vs := its) hpl.isList hZ (ksk_s1 _ _) (fun _ => ksk_l1 _ _) fun E' => ?_
  rw [ksk_t1]
  have hA : s.heap.get? (s.heap.objs.size + 1) = none := Heap.get?_none_of_le (Nat.le_succ _)
  have ho := copyHeap_at s.heap its
  obtain ⟨e1, ho1⟩ : ∃ e1, ((copyHeap s.heap its).update (s.heap.objs.size + 1) (Obj.mapSeq fun _ => (#[] : Array Value))).get? (s.heap.objs.size + 1) = some (seqObj "list" #[] e1) := ⟨_, get?_update_seq ho fun _ => #[]⟩
  unfold ksk_tree
  refine wpAny_bind (listItems_at ho rfl ?_)
  refine wpAny_bind (listUpdate_at ho rfl ?_ (by rw [List.size_toArray]; exact hZ) (Nat.zero_le _))
  refine wpAny_bind (seqEpoch_at ho1 rfl ?_)
  refine wpAny_bind (wpAny_newTuple ?_ (by show its.length ≤ _; exact hZ))
  refine wpAny_bind (wpAny_newList ?_ (Nat.zero_le _))
  refine wpAny_holding ?_
  obtain ⟨hp, ehp⟩ : ∃ hp, hp = (((copyHeap s.heap its).update (s.heap.objs.size + 1) (Obj.mapSeq fun _ => (#[] : Array Value))).push (seqObj "tuple" its.toArray 0)).push (seqObj "list" #[] 0) := ⟨_, rfl⟩
  obtain ⟨kS, ekS⟩ : ∃ kS, kS = (((copyHeap s.heap its).update (s.heap.objs.size + 1) (Obj.mapSeq fun _ => (#[] : Array Value))).push (seqObj "tuple" its.toArray 0)).objs.size := ⟨_, rfl⟩
  have hcs : (copyHeap s.heap its).objs.size = s.heap.objs.size + 2 := by
    unfold copyHeap
    rw [size_push', Heap.size_update, size_push']
  have hkS : kS = s.heap.objs.size + 3 := by rw [ekS, size_push', Heap.size_update, hcs]
  have old : ∀ b u, s.heap.get? b = some u → hp.get? b = some u := fun b u q => by
    rw [ehp]
    exact sorting_copy_old q
  have nk : hp.get? kS = some (seqObj "list" #[] 0) := by
    rw [ehp, ekS]
    exact Heap.get?_push_size _ rfl
  have na : hp.get? (s.heap.objs.size + 1) = some (seqObj "list" #[] e1) := by
    rw [ehp]
    exact Heap.get?_push_of_some _ (Heap.get?_push_of_some _ ho1)
  have I1 : Inv X pins σ H { s with heap := hp, toks := s.toks } := I.kept old
  have fresh : ∀ c, s.heap.objs.size ≤ c → s.heap.get? c = none := fun c hc => Heap.get?_none_of_le hc
  have frA : s.heap.objs.size + 1 ∉ frs X.stack := inv_frs I (fresh _ (by omega))
  have frK : kS ∉ frs X.stack := inv_frs I (fresh _ (by omega))
  have leK : s.heap.objs.size ≤ kS := by rw [hkS]; exact Nat.le_add_right _ _
  have leA : s.heap.objs.size ≤ s.heap.objs.size + 1 := Nat.le_succ _
  have neKA : kS ≠ s.heap.objs.size + 1 := by rw [hkS]; exact Nat.ne_of_gt (by omega)
  have locK : kS ≠ X.env.locals := ne_far leK I.lt
  have celK : ∀ x c, X.env.cells.lookup x = some c → c ≠ kS := fun x c hc => by
    obtain ⟨v, o, hv, _⟩ := I.cell x c hc
    exact (ne_far leK (Heap.lt_size hv)).symm
  have pinK : ∀ p ∈ X.pn ++ pins, p.1 ≠ kS := fun p hp2 => (ne_far leK (Heap.lt_size (I.pin p hp2).1)).symm
  have k0 : X.s_0.heap.objs.size ≤ kS := by
    have := I.sz
    omega
  have nHA : H (s.heap.objs.size + 1) = none := I.hok.fresh (Nat.le_succ _)
  have nHK : H kS = none := I.hok.fresh (by omega)
  have J0 : KeyJ X pins σ H kS (s.heap.objs.size + 1) e1 ds 0 { s with heap := hp, toks := s.toks } := ⟨H, #[], 0, [], I1, Ek.refl _, nHK, nHA, nk, na, .nil, by rw [List.take_zero]; exact .nil⟩
  show wpAny (model X.prog X.w) X.A.in1.in1 (ksk_rest (s.heap.objs.size + 1) (.ref f) false its.toArray e1 (.ref _)) _ E' _
  rw [← ekS]
  unfold ksk_rest
  refine wpAny_bind (wpAny_rule ?_)
  first
    | rw [List.forIn_toArray]
    | (rw [← Array.forIn_toList]; simp only [List.toList_toArray])
  rw [← ehp]
  refine wpAny_bind (ksk_fold (KeyJ X pins σ H kS (s.heap.objs.size + 1) e1 ds) its 0 _ J0 ?step ?done)
  case step =>
    intro j u s' hu J
    simp only [Nat.zero_add] at J ⊢
    obtain ⟨Hi, kA, e, ks, Ii, xi, nk', na', gk, ga, rk, dk⟩ := J.ex
    obtain ⟨x, hx, rx⟩ : ∃ x, xs[j]? = some x ∧ RelV x u := by
      have hj : j < xs.length := by rw [← hln]; exact (List.getElem?_eq_some_iff.mp hu).1
      exact ⟨_, List.getElem?_eq_getElem hj, vals_at rv (List.getElem?_eq_getElem hj) hu⟩
    obtain ⟨d, hd⟩ : ∃ d, ds[j]? = some d := ⟨_, List.getElem?_eq_getElem (by rw [hlen]; exact (List.getElem?_eq_some_iff.mp hx).1)⟩
    have hsp := turn j x d hx hd Hi xi
    have hr2 : Room k X.A.in1.in1 := (hr.in1).in1
    have b := hb s' [u] Ii.kIn (by rw [List.append_nil]; have := F.len _ _ _ _ hsp; simpa using this)
    rw [List.append_nil] at b
    refine wpAny_bind (wpAny_attempt (wpAny_call (codeAny_mono (F.run X.A.in1.in1 X.stack s' Hi ⟨[u], []⟩ [u] [x] _ _ hr2 (Ii.env0.in1.in1) b (.cons rx .nil) hsp) fun r s'' hq => ?_)))
    cases r with
    | error er => exact (noCX hq).elim
    | ok fl =>
      cases fl with
      | next => exact False.elim hq
      | brk => exact False.elim hq
      | cont => exact False.elim hq
      | ret v =>
        have hce := hq
        obtain ⟨v0, H0, os0, bare0, un0, hok0, rv0, ex0, dp0⟩ := hce
        have I2 : Inv X pins σ H0 s'' := by
          obtain ⟨hh, g, dd, t, os'⟩ := s''
          obtain rfl : os' = s'.os := os0
          exact Ii.call (h' := hh) (g' := g) (d' := dd) (t' := t) (ch := []) un0 hok0 bare0 (fun b z => absurd z (by simp))
        have gk2 : s''.heap.get? kS = some (seqObj "list" kA e) := un0.keep kS _ gk nk' frK (by simp)
        have ga2 : s''.heap.get? (s.heap.objs.size + 1) = some (seqObj "list" #[] e1) := un0.keep _ _ ga na' frA (by simp)
        have fk2 : H0 kS = none := un0.free kS _ gk nk' (by simp)
        have fa2 : H0 (s.heap.objs.size + 1) = none := un0.free _ _ ga na' (by simp)
        have s1 := Heap.SameBut.update s''.heap kS (Obj.mapSeq (·.push v))
        obtain ⟨c2, hc2⟩ : ∃ c2, (s''.heap.update kS (Obj.mapSeq (·.push v))).get? kS = some (seqObj "list" (kA.push v) c2) := ⟨_, get?_update_seq gk2 (·.push v)⟩
        have hks : kA.size ≤ its.length := by
          have h1 : kA.size = (ds.take j).length := by
            rw [← dpAll_len dk, rk.length]
            exact Array.length_toList.symm
          have h2 : (ds.take j).length ≤ j := by rw [List.length_take]; exact Nat.min_le_left _ _
          exact Nat.le_trans (Nat.le_of_eq h1) (Nat.le_trans h2 (Nat.le_of_lt (List.getElem?_eq_some_iff.mp hu).1))
        refine wpAny_bind (listUpdate_at gk2 rfl ?_ (Nat.le_trans hks hZ) (Nat.le_trans (Nat.le_of_eq (Array.size_push ..)) (Nat.succ_le_succ (Nat.le_trans hks hZ))))
        refine wpAny_pure ⟨rfl, H0, kA.push v, c2, ks ++ [v0], ?_, xi.trans ex0, fk2, fa2, hc2, ?_, ?_, ?_⟩
        · exact inv_chg I2 fk2 k0 locK celK pinK frK (fun b w hb q => (s1.2 b hb).trans q) hc2
        · exact (s1.2 _ neKA.symm).trans ga2
        · have : (kA.push v).toList = kA.toList ++ [v] := by simp
          rw [this]
          exact rk.append (.cons rv0 .nil)
        · have ek : ds.take (j + 1) = ds.take j ++ [d] := by rw [List.take_add_one, hd]; simp
          rw [ek]
          exact dpAll_snoc dp0 (dpAll_ex ex0 dk)
  case done =>
    intro s' J
    obtain ⟨Hi, kA, e, ks, Ii, xi, nk', na', gk, ga, rk, dk⟩ := J.ex
    have e3 : ds.take (0 + its.length) = ds := List.take_of_length_le (by omega)
    rw [e3] at dk
    obtain ⟨as, hra⟩ := Dp.readsAll Ii ds ks _ dk rk
    have hk' := readsAll_eachIs hra
    have hsz : kA.size = its.length := by
      have h1 := hk'.length
      rw [Array.length_toList] at h1
      omega
    have hu : ∀ d ∈ ds, X.A.in1.in1.units + d.depth < cLine := fun d hd => by
      have h1 := hdep d hd
      have h2 := hr.un
      show X.A.units + 1 + 1 + d.depth < cLine
      omega
    refine wpAny_bind (listItems_at gk rfl ?_)
    refine keyH_end (κ := dataKind s'.heap ds) (h₁ := lessAt s'.heap kS) (vs := its) (b := false) (fun b o hb q => ?_) (lessAt_self _ _) gk ga neKA (SortsAt.data (s := s') hk' hal hsk hu) hsz hZ fun h3 tk3 c k3 n3 => ⟨rfl, ?_⟩
    · have nb : b ≠ kS := fun z => by rw [z, lessAt_self] at q; cases q
      rwa [lessAt_ne nb] at q
    · have hout := keyedOut_each (rev := false) (R := fun (u : Value) (q : V × PyData) => RelV q.1 u) (bs := xs.zip ds) (vs := its) Prod.snd (out := sortVals (dataKind s'.heap ds) false kA.toList its) (by
        have em : (xs.zip ds).map Prod.snd = ds := by rw [List.map_snd_zip]; omega
        rw [em]
        exact ⟨s'.heap, kA.toList, hal, rfl, hk'⟩) (by
        have : ∀ {xs : List V} {us : List Value} {ds : List PyData}, ds.length = xs.length → Vals xs us → EachIs (fun (u : Value) (q : V × PyData) => RelV q.1 u) us (xs.zip ds) := by
          intro xs
          induction xs with
          | nil => intro us ds _ r; cases r; exact .nil
          | cons x xs ih =>
            intro us ds hl r
            cases r with
            | cons r1 r2 =>
              cases ds with
              | nil => cases hl
              | cons d ds => exact .cons r1 (ih (by simpa using hl) r2)
        exact this hlen rv)
      obtain ⟨out, ro, eo⟩ : ∃ out : List V, Vals out (sortVals (dataKind s'.heap ds) false kA.toList its) ∧ EachIs (fun (x : V) (q : V × PyData) => x = q.1) out ((xs.zip ds).mergeSort (dataLe false Prod.snd)) := by
        revert hout
        generalize sortVals (dataKind s'.heap ds) false kA.toList its = L
        generalize (xs.zip ds).mergeSort (dataLe false Prod.snd) = M
        intro hout
        induction hout with
        | nil => exact ⟨[], .nil, .nil⟩
        | @cons u q us qs h1 h2 ih =>
          obtain ⟨out, ro, eo⟩ := ih
          exact ⟨q.1 :: out, .cons h1 ro, .cons rfl eo⟩
      have hol : out.length ≤ sizeLine := by
        rw [ro.length, sortVals_length false (by rw [Array.length_toList]; exact hsz)]
        exact hZ
      have fk3 : Hi (s.heap.objs.size + 1) = none := na'
      have keep3 : ∀ b w, b ≠ kS → b ≠ s.heap.objs.size + 1 → s'.heap.get? b = some w → h3.get? b = some w := fun b w h1 h2 q => k3 b w h2 (by rw [lessAt_ne h1]; exact q)
      refine ⟨.ref (s.heap.objs.size + 1), upd Hi (s.heap.objs.size + 1) (.lst out), ?_, rfl, h _ Hi out nHA xi na' eo⟩
      have un3 : Un (frs X.stack) [kS, s.heap.objs.size + 1] Hi (upd Hi (s.heap.objs.size + 1) (.lst out)) s'.heap h3 := by
        have nn : ∀ b, b ∉ [kS, s.heap.objs.size + 1] → b ≠ kS ∧ b ≠ s.heap.objs.size + 1 := fun b hb => ⟨fun z => hb (by simp [z]), fun z => hb (by simp [z])⟩
        refine ⟨fun b o q _ _ hx => keep3 b o (nn b hx).1 (nn b hx).2 q, fun b o q _ _ hx => ⟨o.slots, keep3 b o (nn b hx).1 (nn b hx).2 q⟩, fun b o _ n hx => by rw [upd_ne (nn b hx).2]; exact n, fun b o q hx => ⟨o, keep3 b o (nn b hx).1 (nn b hx).2 q⟩, fun b xs q => ?_, fun b o u q => ?_, fun b ps q => ⟨#[], ?_⟩⟩
        · rw [upd_ne (ne_of_none q na')]; exact q
        · rw [upd_ne (ne_of_none q na')]; exact q
        · rw [upd_ne (ne_of_none q na')]; simpa using q
      have hok3 : HOk X.prog X.w (upd Hi (s.heap.objs.size + 1) (.lst out)) h3 := fun b o q => by
        by_cases hb2 : b = s.heap.objs.size + 1
        · subst hb2
          rw [upd_same] at q; cases q
          exact ⟨hol, sortVals (dataKind s'.heap ds) false kA.toList its, c, ro, n3⟩
        · rw [upd_ne hb2] at q
          refine (Ii.hok b o q).stay (fun c2 w hc q2 => keep3 c2 w (fun z => ?_) (fun z => ?_) q2) (fun c2 q2 => by rw [upd_ne (ne_of_none q2 na')]; exact q2) fun c2 ys q2 => by rw [upd_ne (ne_of_none q2 na')]; exact q2
          · subst z
            rcases hc with hc | hc
            · rw [hc, q] at nk'; cases nk'
            · rw [nk'] at hc; cases hc
          · rcases hc with hc | hc
            · exact hb2 (hc ▸ z)
            · rw [z, na'] at hc; cases hc
      exact Ii.call (h' := h3) (g' := s'.gens) (d' := s'.drawn) (t' := tk3) (ch := [kS, s.heap.objs.size + 1]) un3 hok3 Ii.bare fun b hb2 => by
        have hb3 : b = kS ∨ b = s.heap.objs.size + 1 := by simpa using hb2
        rcases hb3 with rfl | rfl
        · exact ⟨.inr k0, locK, celK, pinK⟩
        · refine ⟨.inr (Nat.le_trans I.sz leA), ne_far leA I.lt, fun x c2 hc => ?_, fun p hp2 => (ne_far leA (Heap.lt_size (I.pin p hp2).1)).symm⟩
          obtain ⟨v, o, hv, _⟩ := I.cell x c2 hc
          exact (ne_far leA (Heap.lt_size hv)).symm
end
end AL
set_option Elab.async false
set_option linter.all false
set_option autoImplicit false
set_option maxRecDepth 100000
set_option maxHeartbeats 4000000
namespace AL
open PySem PySem.Spec PyProof.Rows L2 PySem.W
theorem nrf_snd : ∀ {fs : List (Str × Pv)}, nrf fs = true → nrs (fs.map (·.2)) = true
  | [], _ => rfl
  | (x, p) :: fs, h => by
    rw [nrf] at h
    have h := Bool.and_eq_true_iff.mp h
    rw [List.map_cons, nrs_cons, h.1, nrf_snd h.2]; rfl
theorem nrd_snd : ∀ {fs : List (Key × Pv)}, nrd fs = true → nrs (fs.map (·.2)) = true
  | [], _ => rfl
  | (x, p) :: fs, h => by
    rw [nrd] at h
    have h := Bool.and_eq_true_iff.mp h
    rw [List.map_cons, nrs_cons, h.1, nrd_snd h.2]; rfl
theorem nrt_snd : ∀ {fs : List (List Key × Pv)}, nrt fs = true → nrs (fs.map (·.2)) = true
  | [], _ => rfl
  | (x, p) :: fs, h => by
    rw [nrt] at h
    have h := Bool.and_eq_true_iff.mp h
    rw [List.map_cons, nrs_cons, h.1, nrt_snd h.2]; rfl
section
variable {K : PySem.W.Frag} {mg : Str → Option Value} {U H : Hp} {μ μ' : List Addr} {cs : Cells}
mutual
theorem nr_rep : ∀ {p : Pv} {v : V}, nr p = true → RepV K mg U μ p v → RepV K mg U μ' p v
  | _, _, _, .non => .non
  | _, _, _, .bl b => .bl b
  | _, _, _, .int i => .int i
  | _, _, _, .str x => .str x
  | _, _, _, .glo h => .glo h
  | _, _, _, .ty n => .ty n
  | _, _, n, .tup s r => .tup s (nrs_rep (by rw [nr] at n; exact n) r)
  | _, _, n, .lst s r => .lst s (nrs_rep (by rw [nr] at n; exact n) r)
  | _, _, n, .obj g h k r => .obj g h k (nrs_rep (nrf_snd (by rw [nr] at n; exact n)) r)
  | _, _, n, .dk h k r => .dk h k (nrs_rep (nrd_snd (by rw [nr] at n; exact n)) r)
  | _, _, n, .dt h k r => .dt h k (nrs_rep (nrt_snd (by rw [nr] at n; exact n)) r)
  | _, _, n, .zk h k r => .zk h k (nrs_rep (nrd_snd (by rw [nr] at n; exact n)) r)
  | _, _, n, .zt h k r => .zt h k (nrs_rep (nrt_snd (by rw [nr] at n; exact n)) r)
  | _, _, n, .ref _ => by rw [nr] at n; cases n
theorem nrs_rep : ∀ {p : List Pv} {v : List V}, nrs p = true → RepVs K mg U μ p v → RepVs K mg U μ' p v
  | _, _, _, .nil => .nil
  | _, _, n, .cons a b => by
    rw [nrs] at n
    have n := Bool.and_eq_true_iff.mp n
    exact .cons (nr_rep n.1 a) (nrs_rep n.2 b)
end
/-- more stands in the heap -/
theorem Rel0.more {H' : Hp} (r : Rel0 K mg cs μ U H) (x : Ex H H') : Rel0 K mg cs μ U H' ∧ Gr U H μ U H' μ := by
  refine ⟨⟨r.vh.trans x, r.nd, r.len, fun k c a h1 h2 => ?_, r.out, fun q hq => by
    obtain ⟨h1, h2, ps, h3, h4⟩ := r.tab q hq
    exact ⟨h1, h2, ps, x _ _ h3, h4⟩, r.ntb⟩, Ex.refl _, List.prefix_refl _, fun a o h u m => ⟨x a _ h, u, m⟩⟩
  have h := r.cel k c a h1 h2
  cases hH : H a with
  | none => exact absurd hH h.some
  | some o => rw [x a o hH, ← hH]; exact h
end
/-- the order of Python's sort, by data -/
noncomputable def sortP (xs : List Pv) (ds : List PyData) : List Pv := ((xs.zip ds).mergeSort (dataLe false Prod.snd)).map Prod.fst
def SortOk (ds : List PyData) : Prop := AllAlike ds ∧ Sortable ds ∧ ∀ d ∈ ds, d.depth ≤ 64
section
variable {K : PySem.W.Frag} {mg : Str → Option Value} {U H : Hp} {μ : List Addr}
theorem sortP_rep {ps : List Pv} {xs out : List V} {ds : List PyData} (hl : ds.length = ps.length) (r : RepVs K mg U μ ps xs) (e : EachIs (fun (x : V) (q : V × PyData) => x = q.1) out ((xs.zip ds).mergeSort (dataLe false Prod.snd))) : RepVs K mg U μ (sortP ps ds) out := by
  have h1 : EachIs (fun (p : Pv × PyData) (q : V × PyData) => RepV K mg U μ p.1 q.1 ∧ p.2 = q.2) (ps.zip ds) (xs.zip ds) := by
    clear e
    induction ps generalizing xs ds with
    | nil => cases r; exact .nil
    | cons p ps ih =>
      cases r with
      | cons r1 r2 =>
        cases ds with
        | nil => exact .nil
        | cons d ds => exact .cons ⟨r1, rfl⟩ (ih (by simpa using hl) r2)
  have h2 := sort_each (r := dataLe false Prod.snd) (s := dataLe false Prod.snd) h1 fun p hp q hq => by
    have e1 := (h1.zip p hp).2
    have e2 := (h1.zip q hq).2
    show dataLe false (fun (b : Pv × PyData) => b.2) p.1 q.1 = dataLe false (fun (b : V × PyData) => b.2) p.2 q.2
    unfold dataLe sortLe
    simp only [e1, e2]
  unfold sortP
  revert e h2
  generalize (xs.zip ds).mergeSort (dataLe false Prod.snd) = M
  generalize (ps.zip ds).mergeSort (dataLe false Prod.snd) = L
  intro e h2
  induction h2 generalizing out with
  | nil => cases e; exact .nil
  | cons a _ ih =>
    cases e with
    | cons b c =>
      subst b
      exact .cons a.1 (ih c)
end
theorem toPys_len : ∀ {xs : List Pv} {ds : List PyData}, toPys xs = some ds → ds.length = xs.length
  | [], ds, h => by cases h; rfl
  | x :: xs, ds, h => by
    unfold toPys at h
    split at h
    · rename_i d ds' h1 h2
      cases h
      rw [List.length_cons, List.length_cons, toPys_len h2]
    · cases h
open Classical in
noncomputable def mSorted : FN := fun vs cs => match vs with
  | [x] => match asL cs x with
    | some xs => match toPys xs with
      | some ds => if SortOk ds then guard_ (fits xs.length) (.ok (.lst (sortP xs ds)) cs) else .bad
      | none => .bad
    | none => .bad
  | _ => .bad
def rSortD (K : PySem.W.Frag) : List V → Hp → VK → Prop := fun vs H Q => ∃ a xs ds, vs = [V.ref a] ∧ SqL K H a xs ∧ DpAll K H xs ds ∧ SortOk ds ∧ ∀ p out, H p = none → EachIs (fun (x : V) (q : V × PyData) => x = q.1) out ((xs.zip ds).mergeSort (dataLe false Prod.snd)) → Q (.ref p) (upd H p (.lst out))
theorem zip_vals : ∀ {xs : List V} {us : List Value} {ds : List PyData}, ds.length = xs.length → Vals xs us → EachIs (fun (u : Value) (q : V × PyData) => RelV q.1 u) us (xs.zip ds)
  | [], _, _, _, .nil => .nil
  | x :: xs, _, [], h, _ => by cases h
  | x :: xs, _, d :: ds, h, .cons r1 r2 => .cons r1 (zip_vals (by simpa using h) r2)
theorem un_each : ∀ {us : List Value} {M : List (V × PyData)}, EachIs (fun (u : Value) (q : V × PyData) => RelV q.1 u) us M → ∃ out : List V, Vals out us ∧ EachIs (fun (x : V) (q : V × PyData) => x = q.1) out M
  | _, _, .nil => ⟨[], .nil, .nil⟩
  | _, _, .cons (b := q) h t => by
    obtain ⟨out, ro, eo⟩ := un_each t
    exact ⟨q.1 :: out, .cons h ro, .cons rfl eo⟩
theorem cr_sortD {X : Cx} (hu : X.A.units + 130 < cLine) : CallR X (.builtin "sorted") (rSortD X.K) := by
  intro pins s σ H vs us Q I r h
  obtain ⟨a, xs, ds, rfl, hs, hd, hok, q⟩ := h
  obtain ⟨its, rv, hl, hz⟩ := I.list hs
  rw [Vals.ref1 r]
  have hlen : ds.length = xs.length := (dpAll_len hd).symm
  obtain ⟨as, hra⟩ := Dp.readsAll I ds xs _ hd rv
  have em : (xs.zip ds).map Prod.snd = ds := by rw [List.map_snd_zip]; omega
  have er : EachIs (fun v (b : V × PyData) => ∃ as, Reads s.heap v b.2 as) its (xs.zip ds) := by
    have := readsAll_eachIs hra
    rw [← em] at this
    exact each_of_map Prod.snd this
  refine sorted_data (bs := xs.zip ds) (R := fun (u : Value) (q : V × PyData) => RelV q.1 u) (enc := Prod.snd) hl.isList (zip_vals hlen rv) er (by rw [em]; exact hok.1) (by rw [em]; exact hok.2.1) (by rw [List.length_zip]; omega) (fun b hb => ?_) fun out hlo eo => ?_
  · have : b.2 ∈ ds := by rw [← em]; exact List.mem_map_of_mem hb
    have := hok.2.2 _ this
    omega
  · obtain ⟨out2, ro, eo2⟩ := un_each eo
    obtain ⟨ep, he'⟩ := PyProof.Rows.sortedAll_at s.heap its (List.toArray out)
    have hol : out2.length ≤ sizeLine := by
      rw [ro.length, hlo, List.length_zip]; omega
    exact ⟨.ref _, upd H (s.heap.objs.size + 1) (.lst out2), I.laid (t' := s.toks) (fun _ _ => PyProof.Rows.sortedAll_old) (Nat.le_succ _) ⟨hol, out, ep, ro, he'⟩, rfl, q _ _ (I.hok.fresh (Nat.le_succ _)) eo2⟩
theorem ok_sorted {K : PySem.W.Frag} {mg : Str → Option Value} : OkC K mg mSorted (rSortD K) := by
  intro E ps cs vs U H μ Q r hx h
  unfold mSorted at h
  split at h
  · rename_i x
    cases hx with
    | cons h1 h2 =>
      cases h2
      split at h
      · rename_i xs e
        split at h
        · rename_i ds ed
          split at h
          · rename_i hok
            obtain ⟨hz, h⟩ := out_guard h
            obtain ⟨a, ws, rfl, s, q⟩ := asL_ok r h1 e
            refine ⟨a, ws, ds, rfl, s, toPys_ok r.vh q ed, hok, fun p out hp eo => ?_⟩
            exact out_lst r (sortP_rep (toPys_len ed) q eo) h p hp
          · exact h.elim
        · exact h.elim
      · exact h.elim
  · exact h.elim
/-- the keys of some items -/
def keyOfs (mk : FN) : List Pv → Option (List PyData)
  | [] => some []
  | x :: xs => match mk [x] [] with
    | .ok k cs => match toPy (deref cs k), keyOfs mk xs with
      | some d, some ds => some (d :: ds)
      | _, _ => none
    | _ => none
theorem keyOfs_len {mk : FN} : ∀ {xs : List Pv} {ds : List PyData}, keyOfs mk xs = some ds → ds.length = xs.length
  | [], ds, h => by cases h; rfl
  | x :: xs, ds, h => by
    unfold keyOfs at h
    split at h
    · split at h
      · rename_i d ds' h1 h2
        cases h
        rw [List.length_cons, List.length_cons, keyOfs_len h2]
      · cases h
    · cases h
theorem keyOfs_at {mk : FN} : ∀ {xs : List Pv} {ds : List PyData} {i : Nat} {x : Pv} {d : PyData}, keyOfs mk xs = some ds → xs[i]? = some x → ds[i]? = some d → ∃ k cs, mk [x] [] = .ok k cs ∧ toPy (deref cs k) = some d
  | [], ds, _, _, _, h, h1, _ => by simp at h1
  | y :: xs, ds, i, x, d, h, h1, h2 => by
    unfold keyOfs at h
    split at h
    · rename_i k cs hm
      split at h
      · rename_i d' ds' e1 e2
        cases h
        cases i with
        | zero =>
          simp at h1 h2
          subst h1; subst h2
          exact ⟨k, cs, hm, e1⟩
        | succ i => exact keyOfs_at (i := i) e2 (by simpa using h1) (by simpa using h2)
      · cases h
    · cases h
open Classical in
noncomputable def mSortK (mk : FN) : FN := fun vs cs => match vs with
  | [x] => match asL cs x with
    | some xs => match keyOfs mk xs with
      | some ds => if SortOk ds ∧ nrs xs = true then guard_ (fits xs.length) (.ok (.lst (sortP xs ds)) cs) else .bad
      | none => .bad
    | none => .bad
  | _ => .bad
section
variable {X : Cx} {W : WE} {t : FE} {k : Nat} {f : Str} {ps : List Str} {mk : FN} {p p2 kpos pos : Pos} {e : Expr}
open Classical in
theorem b_sortK (F : FnB X.prog X.w X.K X.mg X.base f k ps mk) (h1 : ps.length = 1) (hr : Room (k + 2) X.A) (hm : X.mg "sorted" = none) (ha : PE X e (rdE X.K X.mg W t)) (hg : Gl X "sorted" := by rfl) (hgf : Gl X f := by rfl) (hdf : (f == ("__debug__" : Str)) = false := by decide)
    (hs : starEach [e] X.env = (false, eval e X.env) :: starEach [] X.env := by rfl)
    (he : backTo pos (starEach [e] X.env) = (false, eval e X.env) :: backTo pos (starEach [] X.env) := by rfl) (hpl : (backTo pos (starEach [e] X.env)).any (·.1) = false := by rfl)
    (hall : (backToKw pos (keywordEach [⟨some "key", .Name f p2, kpos⟩] X.env)).all (·.1.isSome) = true := by rfl) (hnone : (backToKw pos (keywordEach [⟨some "key", .Name f p2, kpos⟩] X.env)).any (·.1.isNone) = false := by rfl)
    (hks : (backToKw pos (keywordEach [⟨some "key", .Name f p2, kpos⟩] X.env)).filterMap (·.1) = [Str.ofString "key"] := by rfl) :
    PE X (.Call (.Name "sorted" p) [e] [⟨some "key", .Name f p2, kpos⟩] pos) (rdE X.K X.mg W (f1 (fun x cs => mSortK mk [x] cs) t)) := by
  obtain ⟨fa, fd, F, hmf, hkf, hb⟩ := F
  have hc : CallRK X (.builtin "sorted") [Str.ofString "key"] (fun vs zs H Q => ∃ (l : Addr) (xs : List V) (ds : List PyData), vs = [.ref l] ∧ zs = [.ref fa] ∧ SqL X.K H l xs ∧ ds.length = xs.length ∧ SortOk ds ∧
      (∀ (i : Nat) (x : V) (d : PyData), xs[i]? = some x → ds[i]? = some d → ∀ H', Ek X.K H H' → spOf X.K X.mg ps.length mk [x] H' (fun v H2 => Ek X.K H' H2 ∧ Dp X.K H2 v d) (fun _ _ _ => False)) ∧
      (∀ p H' out, H p = none → Ek X.K H H' → H' p = none → EachIs (fun (x : V) (q : V × PyData) => x = q.1) out ((xs.zip ds).mergeSort (dataLe false Prod.snd)) → Q (.ref p) (upd H' p (.lst out)))) := by
    intro pins s σ H xs0 zs us ws Q I r1 r2 h
    obtain ⟨l, xs, ds, rfl, rfl, hl, hlen, hok, turn, q⟩ := h
    cases r1 with
    | cons a1 b1 =>
      cases b1
      cases r2 with
      | cons a2 b2 =>
        cases b2
        cases (show _ = Value.ref l from a1)
        cases (show _ = Value.ref fa from a2)
        exact sort_key_run I hl F hb hr hlen hok.1 hok.2.1 hok.2.2 turn q
  have hkw : PK X [⟨some "key", .Name f p2, kpos⟩] (tCons (tC (.ref fa)) tNil) := pk_cons (pe_glob hgf hmf (show RelV (.ref fa) _ from rfl) hdf) pk_nil
  refine PE.le (pe_callBK hc hg hm (by decide +kernel) (pa_cons ha pa_nil hs) hkw (by decide) (by decide) he hpl hall hnone hks) fun σ H Q q => ?_
  obtain ⟨sl, cs, μ, U, r0, rs, q⟩ := q
  refine ⟨sl, cs, μ, U, r0, rs, Out.seq q fun x cs1 w U1 H1 μ1 _ g1 r1 p1 h1' => ?_⟩
  have h1' : Out X.K X.mg (RepV X.K X.mg) (fun c d H => W.w c d σ H) U1 H1 μ1 (match asL cs1 x with
    | some xs => match keyOfs mk xs with
      | some ds => if SortOk ds ∧ nrs xs = true then guard_ (fits xs.length) (.ok (.lst (sortP xs ds)) cs1) else .bad
      | none => .bad
    | none => .bad) Q := h1'
  split at h1'
  case h_2 => exact h1'.elim
  rename_i xs ex
  split at h1'
  case h_2 => exact h1'.elim
  rename_i ds ed
  split at h1'
  case isFalse => exact h1'.elim
  rename_i hok
  obtain ⟨hz, h1'⟩ := out_guard h1'
  obtain ⟨a, ws, rfl, s, rq⟩ := asL_ok r1 p1 ex
  have hlen := keyOfs_len ed
  refine ⟨a, ws, ds, rfl, rfl, s, by rw [hlen, rq.length], hok.1, fun i v d hv hd H' hx => ?_, fun pp H' out hp hx hp' eo => ?_⟩
  · obtain ⟨pv, hpv, rp⟩ := rq.get hv
    obtain ⟨kk, kcs, hmk, hdk⟩ := keyOfs_at ed hpv hd
    have hn : nr pv = true := nrs_all.mp hok.2 pv (List.mem_of_getElem? hpv)
    refine ⟨by rw [h1]; rfl, [pv], [], [], unT H', Rel0.own (hx.t r1.tabs), .cons ((nr_rep hn rp).mono (r1.unT hx.x) (List.prefix_refl _)) .nil, ?_⟩
    rw [hmk]
    intro w U' H2 μ' g r rp2
    exact ⟨Ek.of_own r g.vv, deref_ok r rp2 hdk⟩
  · obtain ⟨U2, r2, g2, _⟩ := r1.code hx.x (hx.t r1.tabs)
    exact out_lst r2 ((sortP_rep hlen rq eo).mono g2.vv g2.mm) (Out.later g2 h1') pp hp'
end
end AL
set_option Elab.async false
set_option linter.all false
set_option autoImplicit false
set_option maxRecDepth 100000
set_option maxHeartbeats 4000000
namespace AL
open PySem PySem.Spec PyProof.Rows L2
section
variable {κ : Type} [DecidableEq κ]
def valP (kvs : List (κ × Pv)) (k : κ) : Option Pv := (kvs.find? fun kv => decide (kv.1 = k)).map (·.2)
def putD (kvs : List (κ × Pv)) (k : κ) (v : Pv) : List (κ × Pv) :=
  if (kvs.any fun kv => decide (kv.1 = k)) = true then kvs.map (fun kv => if kv.1 = k then (kv.1, v) else kv) else kvs ++ [(k, v)]
variable {K : PySem.W.Frag} {mg : Str → Option Value} {U : Hp} {μ : List Addr}
def RepD (K : PySem.W.Frag) (mg : Str → Option Value) (U : Hp) (μ : List Addr) (kvs : List (κ × Pv)) (ws : List (κ × V)) : Prop := kvs.map (·.1) = ws.map (·.1) ∧ RepVs K mg U μ (kvs.map (·.2)) (ws.map (·.2))
theorem RepD.split {k k' : κ} {p : Pv} {w : V} {kvs : List (κ × Pv)} {ws : List (κ × V)} (h : RepD K mg U μ ((k, p) :: kvs) ((k', w) :: ws)) : k = k' ∧ RepV K mg U μ p w ∧ RepD K mg U μ kvs ws := by
  obtain ⟨h1, h2⟩ := h
  simp only [List.map_cons, List.cons.injEq] at h1
  cases h2 with
  | cons a b => exact ⟨h1.1, a, h1.2, b⟩
theorem RepD.cons {k : κ} {p : Pv} {w : V} {kvs : List (κ × Pv)} {ws : List (κ × V)} (h1 : RepV K mg U μ p w) (h2 : RepD K mg U μ kvs ws) : RepD K mg U μ ((k, p) :: kvs) ((k, w) :: ws) := ⟨by simp only [List.map_cons]; rw [h2.1], .cons h1 h2.2⟩
theorem RepD.len {kvs : List (κ × Pv)} {ws : List (κ × V)} (h : RepD K mg U μ kvs ws) : kvs.length = ws.length := by
  have := congrArg List.length h.1
  simpa using this
def RepO (K : PySem.W.Frag) (mg : Str → Option Value) (U : Hp) (μ : List Addr) : Option Pv → Option V → Prop
  | some p, some v => RepV K mg U μ p v
  | none, none => True
  | _, _ => False
theorem RepD.val {k : κ} : ∀ {kvs : List (κ × Pv)} {ws : List (κ × V)}, RepD K mg U μ kvs ws → RepO K mg U μ (valP kvs k) (valV ws k)
  | [], [], _ => trivial
  | [], _ :: _, h => nomatch h.1
  | _ :: _, [], h => nomatch h.1
  | (x, p) :: kvs, (y, w) :: ws, h => by
    obtain ⟨rfl, h1, h2⟩ := h.split
    unfold valP valV
    by_cases e : x = k
    · simp only [List.find?_cons, e, decide_true, Option.map_some]
      exact h1
    · simp only [List.find?_cons, e, decide_false]
      exact RepD.val h2
theorem RepD.any {k : κ} : ∀ {kvs : List (κ × Pv)} {ws : List (κ × V)}, RepD K mg U μ kvs ws → (kvs.any fun kv => decide (kv.1 = k)) = ws.any fun kv => decide (kv.1 = k)
  | [], [], _ => rfl
  | [], _ :: _, h => nomatch h.1
  | _ :: _, [], h => nomatch h.1
  | (x, p) :: kvs, (y, w) :: ws, h => by
    obtain ⟨rfl, h1, h2⟩ := h.split
    rw [List.any_cons, List.any_cons, RepD.any h2]
theorem RepD.repl {k : κ} {p : Pv} {v : V} (hp : RepV K mg U μ p v) : ∀ {kvs : List (κ × Pv)} {ws : List (κ × V)}, RepD K mg U μ kvs ws → RepD K mg U μ (kvs.map (fun kv => if kv.1 = k then (kv.1, p) else kv)) (ws.map (fun kv => if kv.1 = k then (kv.1, v) else kv))
  | [], [], _ => ⟨rfl, .nil⟩
  | [], _ :: _, h => nomatch h.1
  | _ :: _, [], h => nomatch h.1
  | (x, q) :: kvs, (y, w) :: ws, h => by
    obtain ⟨rfl, h1, h2⟩ := h.split
    rw [List.map_cons, List.map_cons]
    by_cases e : x = k
    · rw [if_pos e, if_pos e]; exact (RepD.repl hp h2).cons hp
    · rw [if_neg e, if_neg e]; exact (RepD.repl hp h2).cons h1
theorem RepD.app {k : κ} {p : Pv} {v : V} (hp : RepV K mg U μ p v) {kvs : List (κ × Pv)} {ws : List (κ × V)} (h : RepD K mg U μ kvs ws) : RepD K mg U μ (kvs ++ [(k, p)]) (ws ++ [(k, v)]) := by
  refine ⟨by simp [h.1], ?_⟩
  rw [List.map_append, List.map_append]
  exact h.2.append (.cons hp .nil)
theorem RepD.put {k : κ} {p : Pv} {v : V} (hp : RepV K mg U μ p v) {kvs : List (κ × Pv)} {ws : List (κ × V)} (h : RepD K mg U μ kvs ws) : RepD K mg U μ (putD kvs k p) (putK ws k v) := by
  unfold putD putK
  rw [h.any]
  split
  · exact h.repl hp
  · exact h.app hp
theorem RepD.mono {U' : Hp} {μ' : List Addr} (e : Ex U U') (m : μ <+: μ') {kvs : List (κ × Pv)} {ws : List (κ × V)} (h : RepD K mg U μ kvs ws) : RepD K mg U' μ' kvs ws := ⟨h.1, h.2.mono e m⟩
end
def dkOf (cs : Cells) : Pv → Option (List (Key × Pv))
  | .dk kvs => some kvs
  | .ref k => match cs[k]? with
    | some (.dK kvs) => some kvs
    | _ => none
  | _ => none
def dtOf (cs : Cells) : Pv → Option (List (List Key × Pv))
  | .dt kvs => some kvs
  | .ref k => match cs[k]? with
    | some (.dT kvs) => some kvs
    | _ => none
  | _ => none
def keyP : Pv → Option Key
  | .int i => some (.inl i)
  | .str x => some (.inr x)
  | _ => none
def keysP : List Pv → Option (List Key)
  | [] => some []
  | p :: ps => match keyP p, keysP ps with
    | some k, some ks => some (k :: ks)
    | _, _ => none
def pvK : Key → Pv
  | .inl i => .int i
  | .inr x => .str x
section
variable {K : PySem.W.Frag} {mg : Str → Option Value} {U H : Hp} {μ : List Addr} {cs : Cells}
theorem dkOf_ok {p : Pv} {v : V} {kvs : List (Key × Pv)} (r : Rel0 K mg cs μ U H) (h : RepV K mg U μ p v) (e : dkOf cs p = some kvs) : ∃ a ws, v = .ref a ∧ H a = some (.dK ws) ∧ RepD K mg U μ kvs ws := by
  cases h with
  | dk h n q => cases e; exact ⟨_, _, rfl, r.vh _ _ h, n, q⟩
  | @ref k a m =>
    have e : (match cs[k]? with | some (.dK kvs) => some kvs | _ => none) = some kvs := e
    split at e
    · rename_i d hk
      cases e
      obtain ⟨ws, h2, h3⟩ := r.cel k _ a hk m
      exact ⟨a, ws, rfl, h2, h3⟩
    · cases e
  | _ => cases e
theorem dtOf_ok {p : Pv} {v : V} {kvs : List (List Key × Pv)} (r : Rel0 K mg cs μ U H) (h : RepV K mg U μ p v) (e : dtOf cs p = some kvs) : ∃ a ws, v = .ref a ∧ H a = some (.dT ws) ∧ RepD K mg U μ kvs ws := by
  cases h with
  | dt h n q => cases e; exact ⟨_, _, rfl, r.vh _ _ h, n, q⟩
  | @ref k a m =>
    have e : (match cs[k]? with | some (.dT kvs) => some kvs | _ => none) = some kvs := e
    split at e
    · rename_i d hk
      cases e
      obtain ⟨ws, h2, h3⟩ := r.cel k _ a hk m
      exact ⟨a, ws, rfl, h2, h3⟩
    · cases e
  | _ => cases e
theorem keyP_ok {p : Pv} {v : V} {k : Key} (h : RepV K mg U μ p v) (e : keyP p = some k) : v = kV k := by
  cases h with
  | int i => cases e; rfl
  | str x => cases e; rfl
  | _ => cases e
theorem keysP_ok : ∀ {ps : List Pv} {vs : List V} {ks : List Key}, RepVs K mg U μ ps vs → keysP ps = some ks → vs = ks.map kV
  | _, _, _, .nil, e => by cases e; rfl
  | _, _, _, .cons a b, e => by
    unfold keysP at e
    split at e
    · rename_i k ks h1 h2
      cases e
      rw [List.map_cons, keyP_ok a h1, keysP_ok b h2]
    · cases e
end
/-- to be read only: also what is locked -/
def dkR (cs : Cells) : Pv → Option (List (Key × Pv))
  | .zk kvs => some kvs
  | p => dkOf cs p
def dtR (cs : Cells) : Pv → Option (List (List Key × Pv))
  | .zt kvs => some kvs
  | p => dtOf cs p
theorem dkR_ok {K : PySem.W.Frag} {mg : Str → Option Value} {U H : Hp} {μ : List Addr} {cs : Cells} {p : Pv} {v : V} {kvs : List (Key × Pv)} (r : Rel0 K mg cs μ U H) (h : RepV K mg U μ p v) (e : dkR cs p = some kvs) : ∃ a ws, v = .ref a ∧ Rd H a (.dK ws) ∧ RepD K mg U μ kvs ws := by
  unfold dkR at e
  split at e
  · cases e
    cases h with
    | zk h n q => exact ⟨_, _, rfl, .inr ⟨_, r.vh _ _ h⟩, n, q⟩
  · obtain ⟨a, ws, h1, h2, h3⟩ := dkOf_ok r h e
    exact ⟨a, ws, h1, .inl h2, h3⟩
theorem dtR_ok {K : PySem.W.Frag} {mg : Str → Option Value} {U H : Hp} {μ : List Addr} {cs : Cells} {p : Pv} {v : V} {kvs : List (List Key × Pv)} (r : Rel0 K mg cs μ U H) (h : RepV K mg U μ p v) (e : dtR cs p = some kvs) : ∃ a ws, v = .ref a ∧ Rd H a (.dT ws) ∧ RepD K mg U μ kvs ws := by
  unfold dtR at e
  split at e
  · cases e
    cases h with
    | zt h n q => exact ⟨_, _, rfl, .inr ⟨_, r.vh _ _ h⟩, n, q⟩
  · obtain ⟨a, ws, h1, h2, h3⟩ := dtOf_ok r h e
    exact ⟨a, ws, h1, .inl h2, h3⟩
/-- what stands at a key: nothing to say | nothing there | a value -/
def lookD (cs : Cells) (d k : Pv) : Option (Option Pv) := match dkR cs d with
  | some kvs => (keyP k).map (valP kvs)
  | none => match dtR cs d with
    | some kvs => match k with
      | .tup ps => (keysP ps).map (valP kvs)
      | _ => none
    | none => none
def isD (cs : Cells) (d : Pv) : Bool := (dkR cs d).isSome || (dtR cs d).isSome
section
variable {K : PySem.W.Frag} {mg : Str → Option Value} {U H : Hp} {μ : List Addr} {cs : Cells}
theorem look_ok {d k : Pv} {v w : V} {o : Option Pv} (r : Rel0 K mg cs μ U H) (hd : RepV K mg U μ d v) (hk : RepV K mg U μ k w) (e : lookD cs d k = some o) : ∃ a ov, v = .ref a ∧ DGet H a w ov ∧ RepO K mg U μ o ov := by
  unfold lookD at e
  split at e
  · rename_i kvs ek
    obtain ⟨a, ws, rfl, hH, hR⟩ := dkR_ok r hd ek
    obtain ⟨key, h1, rfl⟩ := Option.map_eq_some_iff.mp e
    refine ⟨a, valV ws key, rfl, ?_, hR.val⟩
    rw [keyP_ok hk h1]
    exact .inl ⟨ws, key, hH, rfl, rfl⟩
  · split at e
    · rename_i kvs ek
      obtain ⟨a, ws, rfl, hH, hR⟩ := dtR_ok r hd ek
      split at e
      · rename_i ps
        obtain ⟨keys, h1, rfl⟩ := Option.map_eq_some_iff.mp e
        obtain ⟨b, us, rfl, hb, hps⟩ := asT_okH r hk rfl
        refine ⟨a, valV ws keys, rfl, .inr ⟨ws, keys, b, hH, rfl, ?_, rfl⟩, hR.val⟩
        rw [hb, keysP_ok hps h1]
      · cases e
    · cases e
theorem isD_ok {d : Pv} {v : V} (r : Rel0 K mg cs μ U H) (hd : RepV K mg U μ d v) (e : isD cs d = true) : ∃ a, v = .ref a ∧ IsD H a := by
  unfold isD at e
  rcases Bool.or_eq_true_iff.mp e with e | e
  · obtain ⟨kvs, ek⟩ := Option.isSome_iff_exists.mp e
    obtain ⟨a, ws, rfl, hH, _⟩ := dkR_ok r hd ek
    exact ⟨a, rfl, .inl ⟨ws, hH⟩⟩
  · obtain ⟨kvs, ek⟩ := Option.isSome_iff_exists.mp e
    obtain ⟨a, ws, rfl, hH, _⟩ := dtR_ok r hd ek
    exact ⟨a, rfl, .inr ⟨ws, hH⟩⟩
end
theorem Room.u1 {k : Nat} {A : Around} (r : Room k A) : A.units + 1 < cLine := by have := r.un; omega
def fDNewK : FE := fun _ cs => .ok (.ref cs.length) (cs ++ [.dK []])
def fDNewT : FE := fun _ cs => .ok (.ref cs.length) (cs ++ [.dT []])
def oDGet : F2 := fun d k cs => match lookD cs d k with
  | some (some v) => .ok v cs
  | _ => .bad
def oDIn (neg : Bool) : F2 := fun k d cs => match lookD cs d k with
  | some o => .ok (.bl (if neg then !o.isSome else o.isSome)) cs
  | none => .bad
def fDGet2 (d k x : FE) : FE := fun sl cs => (d sl cs).bind fun dv cs1 => guard_ (isD cs1 dv) ((k sl cs1).bind fun kv cs2 => (x sl cs2).bind fun xv cs3 => match lookD cs3 dv kv with
  | some o => .ok (o.getD xv) cs3
  | none => .bad)
def fDGet1 (d k : FE) : FE := fun sl cs => (d sl cs).bind fun dv cs1 => guard_ (isD cs1 dv) ((k sl cs1).bind fun kv cs2 => match lookD cs2 dv kv with
  | some o => .ok (o.getD .non) cs2
  | none => .bad)
def sDPut (d k v : FE) : FS := fun sl cs => (v sl cs).go sl fun vv cs1 => (d sl cs1).go sl fun dv cs2 => (k sl cs2).go sl fun kv cs3 => match dv with
  | .ref j => match cs3[j]? with
    | some (.dK kvs) => match keyP kv with
      | some key => if kvs.length < 16777216 then .nx sl (cs3.set j (.dK (putD kvs key vv))) else .bad
      | none => .bad
    | some (.dT kvs) => match kv with
      | .tup ps => match keysP ps with
        | some keys => if kvs.length < 16777216 then .nx sl (cs3.set j (.dT (putD kvs keys vv))) else .bad
        | none => .bad
      | _ => .bad
    | _ => .bad
  | _ => .bad
section
variable {X : Cx} {W : WE} {fd fk fx : FE} {o i e f value : Expr} {pos pos' apos cpos : Pos}
theorem b_dnewK : PE X (.Dict [] [] pos) (rdE X.K X.mg W fDNewK) := PE.le pe_dnewK fun σ H Q q => by
  obtain ⟨sl, cs, μ, U, r, rs, h⟩ := q
  intro p hp
  obtain ⟨r1, g1⟩ := r.hidden (o := .dK []) hp
  have hm : p ∉ μ := fun z => r.there z hp
  have pm : μ <+: μ ++ [p] := List.prefix_append _ _
  have r2 := r1.cell (p := p) (c := .dK []) ⟨[], upd_same, rfl, .nil⟩ (r.vh.none hp) hm
  refine h _ U _ (μ ++ [p]) ⟨Ex.refl _, pm, fun a o h1 h2 h3 => ?_⟩ r2 (.ref ?_)
  · obtain ⟨a1, a2, a3⟩ := g1.hid a o h1 h2 h3
    refine ⟨a1, a2, fun z => ?_⟩
    rcases List.mem_append.mp z with z | z
    · exact a3 z
    · exact ne_of_none h1 hp (by simpa using z)
  · rw [← r.len, List.getElem?_append_right (Nat.le_refl _), Nat.sub_self]; rfl
theorem b_dnewT : PE X (.Dict [] [] pos) (rdE X.K X.mg W fDNewT) := PE.le pe_dnewT fun σ H Q q => by
  obtain ⟨sl, cs, μ, U, r, rs, h⟩ := q
  intro p hp
  obtain ⟨r1, g1⟩ := r.hidden (o := .dT []) hp
  have hm : p ∉ μ := fun z => r.there z hp
  have pm : μ <+: μ ++ [p] := List.prefix_append _ _
  have r2 := r1.cell (p := p) (c := .dT []) ⟨[], upd_same, rfl, .nil⟩ (r.vh.none hp) hm
  refine h _ U _ (μ ++ [p]) ⟨Ex.refl _, pm, fun a o h1 h2 h3 => ?_⟩ r2 (.ref ?_)
  · obtain ⟨a1, a2, a3⟩ := g1.hid a o h1 h2 h3
    refine ⟨a1, a2, fun z => ?_⟩
    rcases List.mem_append.mp z with z | z
    · exact a3 z
    · exact ne_of_none h1 hp (by simpa using z)
  · rw [← r.len, List.getElem?_append_right (Nat.le_refl _), Nat.sub_self]; rfl
theorem b_dget (hu : X.A.units + 1 < cLine) (ho : PE X o (rdE X.K X.mg W fd)) (hi : PE X i (rdE X.K X.mg W fk)) (hs : NoSl i := by exact fun _ _ => rfl) : PE X (.Subscript o i pos) (rdE X.K X.mg W (f2 oDGet fd fk)) := PE.le (pe_dget hu ho hi hs) fun σ H Q q => by
  obtain ⟨sl, cs, μ, U, r0, rs, q⟩ := q
  refine ⟨sl, cs, μ, U, r0, rs, Out.seq q fun d cs1 w U1 H1 μ1 _ g1 r1 p1 h1 => ⟨sl, cs1, μ1, U1, r1, rs.mono g1, Out.seq h1 fun k cs2 w2 U2 H2 μ2 _ g2 r2 p2 h2 => ?_⟩⟩
  unfold oDGet at h2
  split at h2
  · rename_i v ev
    obtain ⟨a, ov, rfl, hg, ho⟩ := look_ok r2 (p1.mono g2.vv g2.mm) p2 ev
    cases ov with
    | none => exact ho.elim
    | some u => exact ⟨a, u, rfl, hg, out_val r2 ho h2⟩
  · exact h2.elim
theorem rd_din {neg : Bool} {σ : L2.St} {H : Hp} {Q : VK} (q : rdE X.K X.mg W (f2 (oDIn neg) fk fd) σ H Q) : rdE X.K X.mg W fk σ H fun y H1 => rdE X.K X.mg W fd σ H1 fun x H2 => ∃ a o, x = .ref a ∧ DGet H2 a y o ∧ Q (.bl (if neg then !o.isSome else o.isSome)) H2 := by
  obtain ⟨sl, cs, μ, U, r0, rs, q⟩ := q
  refine ⟨sl, cs, μ, U, r0, rs, Out.seq q fun k cs1 w U1 H1 μ1 _ g1 r1 p1 h1 => ⟨sl, cs1, μ1, U1, r1, rs.mono g1, Out.seq h1 fun d cs2 w2 U2 H2 μ2 _ g2 r2 p2 h2 => ?_⟩⟩
  unfold oDIn at h2
  split at h2
  · rename_i o eo
    obtain ⟨a, ov, rfl, hg, ho⟩ := look_ok r2 p2 (p1.mono g2.vv g2.mm) eo
    have e : o.isSome = ov.isSome := by
      cases o <;> cases ov <;> first | rfl | exact ho.elim
    rw [e] at h2
    exact ⟨a, ov, rfl, hg, out_val r2 (.bl _) h2⟩
  · exact h2.elim
theorem rd_tB {t : FE} (σ : L2.St) (H : Hp) (Q : Bool → Hp → Prop) (q : rdT X.K X.mg W (fTst t) σ H Q) : rdE X.K X.mg W t σ H fun v H1 => ∃ d, v = .bl d ∧ Q d H1 := by
  obtain ⟨sl, cs, μ, U, r0, rs, q⟩ := q
  refine ⟨sl, cs, μ, U, r0, rs, Out.seq q fun x cs1 w U1 H1 μ1 _ g1 r1 p1 h1 => ?_⟩
  split at h1
  · cases p1
    exact ⟨_, rfl, h1 _ _ _ _ Gr.refl r1 rfl⟩
  · exact h1.elim
theorem t_din (hu : X.A.units + 1 < cLine) (hi : PE X i (rdE X.K X.mg W fk)) (ho : PE X o (rdE X.K X.mg W fd)) (hm : behindInMarks .In o = false := by rfl) : PT X (.Compare i [.In] [o] pos) (rdT X.K X.mg W (fTst (f2 (oDIn false) fk fd))) := PT.le (pt_cmp (pc_din hu hi ho) hm) fun σ H Q q => rd_din (rd_tB σ H Q q)
theorem repO_getD {K : PySem.W.Frag} {mg : Str → Option Value} {U : Hp} {μ : List Addr} {o : Option Pv} {ov : Option V} {p : Pv} {v : V} (h : RepO K mg U μ o ov) (hp : RepV K mg U μ p v) : RepV K mg U μ (o.getD p) (ov.getD v) := by
  cases o <;> cases ov <;> first | exact hp | exact h | exact h.elim
theorem b_dget2 (hu : X.A.units + 1 < cLine) (ho : PE X o (rdE X.K X.mg W fd)) (he : PE X e (rdE X.K X.mg W fk)) (hf : PE X f (rdE X.K X.mg W fx)) (m : M2 X o "get" apos e f cpos := by exact ⟨rfl, rfl, rfl, rfl⟩) : PE X (.Call (.Attribute o "get" apos) [e, f] [] cpos) (rdE X.K X.mg W (fDGet2 fd fk fx)) :=
  PE.le (pe_dget2 hu ho he hf m) fun σ H Q q => by
    obtain ⟨sl, cs, μ, U, r0, rs, q⟩ := q
    refine ⟨sl, cs, μ, U, r0, rs, Out.seq q fun d cs1 w U1 H1 μ1 _ g1 r1 p1 h1 => ?_⟩
    obtain ⟨hz, h1⟩ := out_guard h1
    obtain ⟨a, rfl, hD⟩ := isD_ok r1 p1 hz
    refine ⟨a, rfl, hD, sl, cs1, μ1, U1, r1, rs.mono g1, Out.seq h1 fun k cs2 w2 U2 H2 μ2 _ g2 r2 p2 h2 => ⟨sl, cs2, μ2, U2, r2, (rs.mono g1).mono g2, Out.seq h2 fun x cs3 w3 U3 H3 μ3 _ g3 r3 p3 h3 => ?_⟩⟩
    split at h3
    · rename_i ov eo
      obtain ⟨a', ov', e1, hg, hR⟩ := look_ok r3 ((p1.mono g2.vv g2.mm).mono g3.vv g3.mm) (p2.mono g3.vv g3.mm) eo
      cases e1
      exact ⟨ov', hg, out_val r3 (repO_getD hR p3) h3⟩
    · exact h3.elim
theorem s_dput (hu : X.A.units + 1 < cLine) (ho : PE X o (rdE X.K X.mg W fd)) (hi : PE X i (rdE X.K X.mg W fk)) (hv : PE X value (rdE X.K X.mg W fx)) (hs : swapsWith value (some (.Subscript o i pos')) pos.line X.env = pure false := by rfl) :
    PS X (.Assign [.Subscript o i pos'] value pos) (rdS X.K X.mg W (AL.sDPut fd fk fx)) := PS.le (ps_dput hu ho hi hv hs) fun D σ H q => by
  obtain ⟨sl, cs, μ, U, r0, rs, q⟩ := q
  refine ⟨sl, cs, μ, U, r0, rs, OutS.seq q rs fun vv cs1 w U1 H1 μ1 _ g1 r1 p1 h1 => ⟨sl, cs1, μ1, U1, r1, rs.mono g1, OutS.seq h1 (rs.mono g1) fun dv cs2 w2 U2 H2 μ2 _ g2 r2 p2 h2 => ⟨sl, cs2, μ2, U2, r2, (rs.mono g1).mono g2, OutS.seq h2 ((rs.mono g1).mono g2) fun kv cs3 w3 U3 H3 μ3 _ g3 r3 p3 h3 => ?_⟩⟩⟩
  have rs3 := ((rs.mono g1).mono g2).mono g3
  have pv := (p1.mono g2.vv g2.mm).mono g3.vv g3.mm
  have pd := p2.mono g3.vv g3.mm
  split at h3
  case h_2 => exact h3.elim
  rename_i j
  cases pd with
  | ref m =>
    split at h3
    · rename_i kvs hk
      split at h3
      · rename_i key ek
        split at h3
        · rename_i hl
          obtain ⟨ws, hH, hR⟩ := r3.cel _ _ _ hk m
          obtain ⟨r4, g4⟩ := r3.put (c' := .dK (putD kvs key vv)) (o := .dK (putK ws key w)) hk (fun z => nomatch z) m ⟨_, rfl, (RepD.put (kvs := kvs) (ws := ws) pv hR)⟩
          refine ⟨_, _, rfl, ?_, h3 _ _ _ _ g4 r4 (rs3.mono g4)⟩
          rw [keyP_ok p3 ek]
          exact DPut.k hH (by rw [sizeLine_eq, ← RepD.len (kvs := kvs) (ws := ws) hR]; exact hl)
        · exact h3.elim
      · exact h3.elim
    · rename_i kvs hk
      split at h3
      · rename_i ps
        split at h3
        · rename_i keys ek
          split at h3
          · rename_i hl
            obtain ⟨ws, hH, hR⟩ := r3.cel _ _ _ hk m
            obtain ⟨b, us, rfl, hb, hps⟩ := asT_okH r3 p3 rfl
            obtain ⟨r4, g4⟩ := r3.put (c' := .dT (putD kvs keys vv)) (o := .dT (putK ws keys w)) hk (fun z => nomatch z) m ⟨_, rfl, (RepD.put (kvs := kvs) (ws := ws) pv hR)⟩
            refine ⟨_, _, rfl, DPut.t hH (by rw [hb, keysP_ok hps ek]) (by rw [sizeLine_eq, ← RepD.len (kvs := kvs) (ws := ws) hR]; exact hl), h3 _ _ _ _ g4 r4 (rs3.mono g4)⟩
          · exact h3.elim
        · exact h3.elim
      · exact h3.elim
    · exact h3.elim
end
def mListT : FN := fun vs cs => match vs with
  | [d] => match dtOf cs d with
    | some kvs => .ok (.lst (kvs.map fun kv => .tup (kv.1.map pvK))) cs
    | none => .bad
  | _ => .bad
section
variable {K : PySem.W.Frag} {mg : Str → Option Value} {U H : Hp} {μ : List Addr} {cs : Cells}
theorem pvK_rep (k : Key) : RepV K mg U μ (pvK k) (kV k) := by
  cases k with
  | inl i => exact .int i
  | inr x => exact .str x
theorem pvKs_rep : ∀ ks : List Key, RepVs K mg U μ (ks.map pvK) (ks.map kV)
  | [] => .nil
  | k :: ks => .cons (pvK_rep k) (pvKs_rep ks)
/-- tuples of the heap come into sight -/
theorem show_keys : ∀ {ks : List (List Key)} {bs : List Addr} {U : Hp}, Rel0 K mg cs μ U H → Paired (fun (k : List Key) b => H b = some (.tup (k.map kV))) ks bs → ∃ U', Rel0 K mg cs μ U' H ∧ Gr U H μ U' H μ ∧ ∀ μ', RepVs K mg U' μ' (ks.map fun k => .tup (k.map pvK)) (bs.map V.ref)
  | [], _, U, r, .nil => ⟨U, r, Gr.refl, fun _ => .nil⟩
  | k :: ks, _, U, r, .cons (b := b) hb t => by
    have key : ∃ U1, Rel0 K mg cs μ U1 H ∧ Gr U H μ U1 H μ ∧ U1 b = some (.tup (k.map kV)) := by
      cases hU : U b with
      | some o =>
        have := r.vh b o hU
        rw [hb] at this; cases this
        exact ⟨U, r, Gr.refl, hU⟩
      | none =>
        have hm : b ∉ μ := fun z => by
          obtain ⟨j, hj⟩ := List.mem_iff_getElem?.mp z
          have hl : j < cs.length := by rw [← r.len]; exact (List.getElem?_eq_some_iff.mp hj).1
          have hc := r.cel j _ b (List.getElem?_eq_getElem hl) hj
          rw [hb] at hc
          cases hco : cs[j] with
          | lst _ => rw [hco] at hc; obtain ⟨_, h, _⟩ := hc; cases h
          | ins _ _ => rw [hco] at hc; obtain ⟨_, _, _, _, h, _⟩ := hc; cases h
          | dK _ => rw [hco] at hc; obtain ⟨_, h, _⟩ := hc; cases h
          | dT _ => rw [hco] at hc; obtain ⟨_, h, _⟩ := hc; cases h
          | dead => rw [hco] at hc; rcases hc with ⟨_, h⟩ | ⟨_, h⟩ | ⟨_, h⟩ | ⟨_, _, h⟩ | ⟨_, _, h⟩ <;> cases h
        obtain ⟨r1, ex1⟩ := r.show_ hb hU hm
        refine ⟨_, r1, ⟨ex1, List.prefix_refl _, fun a xs h1 h2 h3 => ⟨h1, ?_, h3⟩⟩, upd_same⟩
        rw [upd_ne (fun z => by rw [z, hb] at h1; cases h1)]
        exact h2
    obtain ⟨U1, r1, g1, h1⟩ := key
    obtain ⟨U2, r2, g2, h2⟩ := show_keys r1 t
    exact ⟨U2, r2, g1.trans g2, fun μ' => .cons (.tup (g2.vv _ _ h1) (pvKs_rep _)) (h2 μ')⟩
theorem isKeys_paired {H : Hp} : ∀ {kvs : List (List Key × V)} {bs : List Addr}, IsKeys H kvs bs → Paired (fun (k : List Key) b => H b = some (.tup (k.map kV))) (kvs.map (·.1)) bs
  | _, _, .nil => .nil
  | _, _, .cons h t => .cons h (isKeys_paired t)
theorem ok_listT : OkC K mg mListT (fun xs H Q => ∃ d kvs, xs = [V.ref d] ∧ Rd H d (.dT kvs) ∧ ∀ p bs, H p = none → IsKeys H kvs bs → Q (.ref p) (upd H p (.lst (bs.map V.ref)))) := by
  intro E ps cs vs U H μ Q r hx h
  unfold mListT at h
  split at h
  · cases hx with
    | cons h1 h2 =>
      cases h2
      split at h
      · rename_i kvs e
        obtain ⟨a, ws, rfl, hH, hR⟩ := dtOf_ok r h1 e
        refine ⟨a, ws, rfl, .inl hH, fun p bs hp hk => ?_⟩
        obtain ⟨U1, r1, g1, hr⟩ := show_keys r (isKeys_paired hk)
        have hr := hr μ
        rw [← hR.1, List.map_map] at hr
        exact out_lst r1 hr (Out.later g1 h) p hp
      · exact h.elim
  · exact h.elim
end
end AL
set_option Elab.async false
set_option linter.all false
set_option autoImplicit false
set_option maxRecDepth 100000
set_option maxHeartbeats 4000000
theorem L2.Room.u1 {k : Nat} {A : PySem.Around} (r : L2.Room k A) : A.units + 1 < PySem.cLine := by have := r.un; omega
theorem L2.Room.u130 {k : Nat} {A : PySem.Around} (r : L2.Room k A) : A.units + 130 < PySem.cLine := by have := r.un; omega
namespace AL
open PySem PySem.Spec PyProof.Rows L2
theorem fn_bad {P : Program} {w : World} {K : PySem.W.Frag} {mg : Str → Option Value} {base : Heap} {CX : CXT} {k : Nat} {f : Addr} {fd : FuncData} {ps : List Str} : FnOk P w K mg base CX k f fd ps (spOf K mg ps.length fun _ _ => .bad) :=
  ⟨fun vs H Q E h => h.1, fun A outer s H args us vs Q E hr he hb hv hs => by
    obtain ⟨_, _, _, _, _, _, _, z⟩ := hs
    exact z.elim⟩
def isNon : Pv → Bool
  | .non => true
  | _ => false
def oIsNG (neg : Bool) : F2 := fun x y cs => match y with
  | .non => .ok (.bl (if neg then !isNon x else isNon x)) cs
  | _ => .bad
def mMax2 : FN := fun vs cs => match vs with
  | [.int i, .int j] => .ok (.int (if j > i then j else i)) cs
  | _ => .bad
theorem ok_max2 {K : PySem.W.Frag} {mg : Str → Option Value} : OkC K mg mMax2 (fun xs H Q => ∃ i j, xs = [.int i, .int j] ∧ Q (.int (if j > i then j else i)) H) := by
  intro E ps cs vs U H μ Q r hx h
  unfold mMax2 at h
  split at h
  · cases hx with
    | cons h1 h2 =>
      cases h2 with
      | cons h2 h3 =>
        cases h3; cases h1; cases h2
        exact ⟨_, _, rfl, out_val r (.int _) h⟩
  · exact h.elim
def mMin2 : FN := fun vs cs => match vs with
  | [.int i, .int j] => .ok (.int (if j < i then j else i)) cs
  | _ => .bad
def frzC : Co → Option Pv
  | .lst xs => some (.lst xs)
  | .dK kvs => some (.dk kvs)
  | .dT kvs => some (.dt kvs)
  | _ => none
def sFrz (i : Nat) : FS := fun sl cs => match sl[i]? with
  | some (some (.ref k)) => match cs[k]? with
    | some c => match frzC c with
      | some p => .nx (sl.set i (some p)) (cs.set k .dead)
      | none => .bad
    | none => .bad
  | _ => .nx sl cs
theorem Rel0.kill {K : PySem.W.Frag} {mg : Str → Option Value} {U H : Hp} {μ : List Addr} {cs : Cells} {k : Nat} {a : Addr} {c : Co} {p : Pv} (r : Rel0 K mg cs μ U H) (hk : cs[k]? = some c) (ha : μ[k]? = some a) (hp : frzC c = some p) :
    ∃ U', Rel0 K mg (cs.set k .dead) μ U' H ∧ Gr U H μ U' H μ ∧ RepV K mg U' μ p (.ref a) := by
  have hd : c ≠ .dead := fun z => by rw [z] at hp; cases hp
  have hU : U a = none := r.out k c a hk ha hd
  have kl : k < cs.length := (List.getElem?_eq_some_iff.mp hk).1
  obtain ⟨o, ho, hdead⟩ : ∃ o, H a = some o ∧ RepC K mg U μ .dead (some o) := by
    have h := r.cel k c a hk ha
    cases c with
    | lst xs => obtain ⟨ws, h1, _⟩ := h; exact ⟨_, h1, .inl ⟨ws, rfl⟩⟩
    | ins _ _ => cases hp
    | dK kvs => obtain ⟨ws, h1, _⟩ := h; exact ⟨_, h1, .inr (.inl ⟨ws, rfl⟩)⟩
    | dT kvs => obtain ⟨ws, h1, _⟩ := h; exact ⟨_, h1, .inr (.inr (.inl ⟨ws, rfl⟩))⟩
    | dead => cases hp
  have ex : Ex U (upd U a o) := Ex.upd hU
  refine ⟨upd U a o, ⟨fun b u e => ?_, r.nd, by rw [List.length_set]; exact r.len, fun j c2 b h1 h2 => ?_, fun j c2 b h1 h2 h3 => ?_, r.tab.same ex fun q _ h1 h2 _ _ => ⟨by
    rw [upd_ne (fun e => h2 (by rw [e]; exact List.mem_of_getElem? ha))]
    exact h1, h2⟩, ntb_upd r.ntb fun ps z => RepC.noTbl hdead ps (by rw [z])⟩, ⟨ex, List.prefix_refl _, fun b xs h1 h2 h3 => ⟨h1, ?_, h3⟩⟩, ?_⟩
  · by_cases q : b = a
    · subst q; rw [upd_same] at e; rw [← e]; exact ho
    · rw [upd_ne q] at e; exact r.vh b u e
  · by_cases q : k = j
    · subst q
      rw [List.getElem?_set_self kl] at h1
      cases h1
      rw [ha] at h2; cases h2
      rw [ho]
      exact hdead
    · rw [List.getElem?_set_ne q] at h1
      exact (r.cel j c2 b h1 h2).mono ex (List.prefix_refl _)
  · by_cases q : k = j
    · subst q
      rw [List.getElem?_set_self kl] at h1
      cases h1
      exact absurd rfl h3
    · rw [List.getElem?_set_ne q] at h1
      have hb : b ≠ a := fun e => q (nd_ix r.nd ha (by rw [← e]; exact h2))
      rw [upd_ne hb]
      exact r.out j c2 b h1 h2 h3
  · have hb : b ≠ a := fun e => h3 (by rw [e]; exact List.mem_of_getElem? ha)
    rw [upd_ne hb]
    exact h2
  · have h := r.cel k c a hk ha
    cases c with
    | lst xs =>
      obtain ⟨ws, h1, q⟩ := h
      cases hp
      rw [ho] at h1; cases h1
      exact .lst (.of upd_same) (q.mono ex (List.prefix_refl _))
    | ins _ _ => cases hp
    | dK kvs =>
      obtain ⟨ws, h1, n, q⟩ := h
      cases hp
      rw [ho] at h1; cases h1
      exact .dk upd_same n (q.mono ex (List.prefix_refl _))
    | dT kvs =>
      obtain ⟨ws, h1, n, q⟩ := h
      cases hp
      rw [ho] at h1; cases h1
      exact .dt upd_same n (q.mono ex (List.prefix_refl _))
    | dead => cases hp
theorem relS_same {K : PySem.W.Frag} {mg : Str → Option Value} {xa : Option Xa} {U : Hp} {μ : List Addr} {sl : Sl} {σ : L2.St} {i : Nat} {p : Pv} {v : V} (r : RelS K mg xa U μ sl σ) (hv : σ[i]? = some (some v)) (h : RepV K mg U μ p v) : RelS K mg xa U μ (sl.set i (some p)) σ := by
  have := r.set h i
  have e : σ.set i (some v) = σ := by
    apply List.ext_getElem?
    intro j
    by_cases q : i = j
    · subst q
      rw [List.getElem?_set_self (List.getElem?_eq_some_iff.mp hv).1, hv]
    · rw [List.getElem?_set_ne q]
  rwa [e] at this
theorem ss_frz {X : Cx} {W : WE} {sts : List Stmt} {f : FS} (i : Nat) (h : PSs X sts (rdS X.K X.mg W f)) : PSs X sts (rdS X.K X.mg W (sSeq (sFrz i) f)) := PSs.le h fun D σ H q => by
  obtain ⟨sl, cs, μ, U, r0, rs, q⟩ := q
  have q : OutS X.K X.mg W D U H μ ((sFrz i sl cs).then f) := q
  unfold sFrz at q
  split at q
  · rename_i k hi
    split at q
    · rename_i c hk
      split at q
      · rename_i p hp
        obtain ⟨v, hv, rv⟩ := rs.val i _ hi
        cases rv with
        | ref ha =>
          obtain ⟨U', r1, g1, rp⟩ := r0.kill hk ha hp
          exact ⟨sl.set i (some p), cs.set k .dead, μ, U', r1, relS_same (rs.mono g1) hv rp, OutS.later g1 q⟩
      · exact q.elim
    · exact q.elim
  · exact ⟨sl, cs, μ, U, r0, rs, q⟩
section
variable {sl : Sl} {cs : Cells} {f g o d k x : FE} {t : FA}
@[simp] theorem ap_mth (m : Str) (tab : List (Str × FN)) : fMth m tab o t sl cs = (o sl cs).bind fun ov cs1 => match oMth m tab ov cs1 with | some mf => (t sl cs1).bind fun vs cs2 => mf (ov :: vs) cs2 | none => .bad := rfl
@[simp] theorem ap_mkRaw (c : Str) (mi : FN) (ps : List Pv) : mkRaw c mi ps cs = (mi (.ref cs.length :: ps) (cs ++ [.ins c []])).bind fun v cs1 => match v with | .non => .ok (.ref cs.length) cs1 | _ => .bad := rfl
@[simp] theorem ap_attr (tab : List Str) (n : Str) : sAttr tab n o f sl cs = (f sl cs).go sl fun v cs1 => (o sl cs1).go sl fun ov cs2 => match ov with
  | .ref k => match cs2[k]? with
    | some (.ins c fs) => if tab.contains c = true ∧ fs.length < 1000 then .nx sl (cs2.set k (.ins c (putP n v fs))) else .bad
    | _ => .bad
  | _ => .bad := rfl
@[simp] theorem ap_frz (i : Nat) : sFrz i sl cs = match sl[i]? with | some (some (.ref k)) => (match cs[k]? with | some c => (match frzC c with | some p => .nx (sl.set i (some p)) (cs.set k .dead) | none => .bad) | none => .bad) | _ => .nx sl cs := rfl
@[simp] theorem ap_frzL (xs : List Pv) : frzC (.lst xs) = some (.lst xs) := rfl
@[simp] theorem ap_frzK (xs : List (Key × Pv)) : frzC (.dK xs) = some (.dk xs) := rfl
@[simp] theorem ap_frzT (xs : List (List Key × Pv)) : frzC (.dT xs) = some (.dt xs) := rfl
@[simp] theorem ap_dnewK : fDNewK sl cs = .ok (.ref cs.length) (cs ++ [.dK []]) := rfl
@[simp] theorem ap_dnewT : fDNewT sl cs = .ok (.ref cs.length) (cs ++ [.dT []]) := rfl
@[simp] theorem ap_dget2 : fDGet2 d k x sl cs = (d sl cs).bind fun dv cs1 => guard_ (isD cs1 dv) ((k sl cs1).bind fun kv cs2 => (x sl cs2).bind fun xv cs3 => match lookD cs3 dv kv with | some o => .ok (o.getD xv) cs3 | none => .bad) := rfl
@[simp] theorem ap_dget1 : fDGet1 d k sl cs = (d sl cs).bind fun dv cs1 => guard_ (isD cs1 dv) ((k sl cs1).bind fun kv cs2 => match lookD cs2 dv kv with | some o => .ok (o.getD .non) cs2 | none => .bad) := rfl
@[simp] theorem ap_dput : AL.sDPut d k x sl cs = (x sl cs).go sl fun vv cs1 => (d sl cs1).go sl fun dv cs2 => (k sl cs2).go sl fun kv cs3 => match dv with
  | .ref j => match cs3[j]? with
    | some (.dK kvs) => match keyP kv with
      | some key => if kvs.length < 16777216 then .nx sl (cs3.set j (.dK (putD kvs key vv))) else .bad
      | none => .bad
    | some (.dT kvs) => match kv with
      | .tup ps => match keysP ps with
        | some keys => if kvs.length < 16777216 then .nx sl (cs3.set j (.dT (putD kvs keys vv))) else .bad
        | none => .bad
      | _ => .bad
    | _ => .bad
  | _ => .bad := rfl
@[simp] theorem v_isN (neg : Bool) (x : Pv) : oIsNG neg x .non cs = .ok (.bl (if neg then !isNon x else isNon x)) cs := rfl
@[simp] theorem v_max2 (i j : Int) : mMax2 [.int i, .int j] cs = .ok (.int (if j > i then j else i)) cs := rfl
@[simp] theorem v_min2 (i j : Int) : mMin2 [.int i, .int j] cs = .ok (.int (if j < i then j else i)) cs := rfl
/-- the cell behind all others -/
@[simp] theorem get_end (c : Co) : (cs ++ [c])[cs.length]? = some c := by simp
@[simp] theorem set_end (c e : Co) : (cs ++ [c]).set cs.length e = cs ++ [e] := by simp
end
end AL
set_option Elab.async false
set_option linter.all false
set_option autoImplicit false
set_option maxRecDepth 100000
set_option maxHeartbeats 4000000
namespace AL
open PySem PySem.Spec PyProof.Rows L2 PySem.W
section
variable {cs : Cells} {a b c e : Co}
@[simp] theorem get_2a : (cs ++ [a, b])[cs.length]? = some a := by simp
@[simp] theorem get_2b : (cs ++ [a, b])[cs.length + 1]? = some b := by
  rw [List.getElem?_append_right (by omega)]; simp
@[simp] theorem set_2a : (cs ++ [a, b]).set cs.length e = cs ++ [e, b] := by simp
@[simp] theorem set_2b : (cs ++ [a, b]).set (cs.length + 1) e = cs ++ [a, e] := by
  rw [List.set_append_right _ _ (by omega)]; simp
@[simp] theorem get_3a : (cs ++ [a, b, c])[cs.length]? = some a := by simp
@[simp] theorem get_3b : (cs ++ [a, b, c])[cs.length + 1]? = some b := by
  rw [List.getElem?_append_right (by omega)]; simp
@[simp] theorem get_3c : (cs ++ [a, b, c])[cs.length + 2]? = some c := by
  rw [List.getElem?_append_right (by omega)]; simp
@[simp] theorem set_3a : (cs ++ [a, b, c]).set cs.length e = cs ++ [e, b, c] := by simp
@[simp] theorem set_3b : (cs ++ [a, b, c]).set (cs.length + 1) e = cs ++ [a, e, c] := by
  rw [List.set_append_right _ _ (by omega)]; simp
@[simp] theorem set_3c : (cs ++ [a, b, c]).set (cs.length + 2) e = cs ++ [a, b, e] := by
  rw [List.set_append_right _ _ (by omega)]; simp
end
theorem zip_maps {α : Type} (f : α → Pv) (d : α → PyData) : ∀ L : List α, (L.map f).zip (L.map d) = L.map fun x => (f x, d x)
  | [] => rfl
  | x :: L => by rw [List.map_cons, List.map_cons, List.zip_cons_cons, zip_maps f d L]; rfl
theorem sortP_map {α : Type} (f : α → Pv) (d : α → PyData) (L : List α) : sortP (L.map f) (L.map d) = (L.mergeSort (dataLe false d)).map f := by
  unfold sortP
  rw [zip_maps, ← sort_maps (r := dataLe false d) (s := dataLe false Prod.snd) (fun x => (f x, d x)) (fun _ _ _ _ => rfl), List.map_map]
  rfl
theorem mSorted_map {α : Type} {f : α → Pv} {d : α → PyData} {L : List α} (hd : ∀ x ∈ L, toPy (f x) = some (d x)) (hok : SortOk (L.map d)) (hl : L.length ≤ 16777216) (cs : Cells) : mSorted [.lst (L.map f)] cs = .ok (.lst ((L.mergeSort (dataLe false d)).map f)) cs := by
  have h1 : toPys (L.map f) = some (L.map d) := toPys_map hd
  have hz : fits (L.map f).length = true := decide_eq_true (by rw [List.length_map]; exact hl)
  unfold mSorted
  simp only [asL_lst, h1]
  rw [if_pos hok, guard_of hz, sortP_map]
theorem keyOfs_map {α : Type} {mk : FN} {f : α → Pv} {d : α → PyData} : ∀ {L : List α}, (∀ x ∈ L, ∃ k cs, mk [f x] [] = .ok k cs ∧ toPy (deref cs k) = some (d x)) → keyOfs mk (L.map f) = some (L.map d)
  | [], _ => rfl
  | x :: L, h => by
    obtain ⟨k, cs, h1, h2⟩ := h x List.mem_cons_self
    rw [List.map_cons, keyOfs, h1]
    simp only [h2, keyOfs_map fun y hy => h y (List.mem_cons_of_mem _ hy)]
    rfl
theorem mSortK_map {α : Type} {mk : FN} {f : α → Pv} {d : α → PyData} {L : List α} (hd : ∀ x ∈ L, ∃ k cs, mk [f x] [] = .ok k cs ∧ toPy (deref cs k) = some (d x)) (hn : ∀ x ∈ L, nr (f x) = true) (hok : SortOk (L.map d)) (hl : L.length ≤ 16777216) (cs : Cells) : mSortK mk [.lst (L.map f)] cs = .ok (.lst ((L.mergeSort (dataLe false d)).map f)) cs := by
  have h1 := keyOfs_map hd
  have hz : fits (L.map f).length = true := decide_eq_true (by rw [List.length_map]; exact hl)
  unfold mSortK
  simp only [asL_lst, h1]
  rw [if_pos ⟨hok, nrs_map hn⟩, guard_of hz, sortP_map]
theorem sortOk_str (L : List Str) : SortOk (L.map PyData.str) :=
  ⟨fun d hd d' hd' => by
    obtain ⟨x, _, rfl⟩ := List.mem_map.mp hd
    obtain ⟨y, _, rfl⟩ := List.mem_map.mp hd'
    simp [alike], .inr fun d hd => by
    obtain ⟨x, _, rfl⟩ := List.mem_map.mp hd
    exact ⟨(fun z => nomatch z), fun _ z => nomatch z⟩, fun d hd => by
    obtain ⟨x, _, rfl⟩ := List.mem_map.mp hd
    simp [PyData.depth]⟩
theorem alike_strs : ∀ (a b : List Str), alikeAll (a.map PyData.str) (b.map PyData.str) = true
  | [], _ => by rw [List.map_nil]; unfold alikeAll; rfl
  | _ :: _, [] => by simp [alikeAll]
  | x :: a, y :: b => by
    rw [List.map_cons, List.map_cons, alikeAll, alike_strs a b]
    simp [alike]
theorem depth_strs : ∀ (a : List Str), PyData.depthAll (a.map PyData.str) = 0
  | [] => by simp [PyData.depthAll]
  | x :: a => by rw [List.map_cons, PyData.depthAll, depth_strs a]; simp [PyData.depth]
end AL
set_option Elab.async false
set_option linter.all false
set_option autoImplicit false
set_option maxRecDepth 100000
set_option maxHeartbeats 4000000
namespace AL
open PySem PySem.Spec PyProof.Rows L2
def pairsP : List Pv → Option (List (Key × Pv))
  | [] => some []
  | .tup [k, v] :: ps => match keyP k, pairsP ps with
    | some k, some r => some ((k, v) :: r)
    | _, _ => none
  | _ :: _ => none
def mergeD (kvs more : List (Key × Pv)) : List (Key × Pv) := more.foldl (fun acc kv => putD acc kv.1 kv.2) kvs
end AL
theorem L2.Room.u0 {k : Nat} {A : PySem.Around} (r : L2.Room k A) : A.units < PySem.cLine := by have := r.un; omega
set_option Elab.async false
set_option linter.all false
set_option autoImplicit false
set_option maxRecDepth 100000
set_option maxHeartbeats 4000000
namespace AL
open PySem PySem.Spec PyProof.Rows L2
section
variable {α β : Type}
theorem Paired.left {R : α → β → Prop} : ∀ {L : List α} {M : List β}, Paired R L M → ∀ a ∈ L, ∃ b ∈ M, R a b
  | _, _, .nil, a, h => by simp at h
  | _, _, .cons r t, a, h => by
    rcases List.mem_cons.mp h with rfl | h
    · exact ⟨_, List.mem_cons_self, r⟩
    · obtain ⟨b, hb, q⟩ := Paired.left t a h
      exact ⟨b, List.mem_cons_of_mem _ hb, q⟩
theorem Paired.len {R : α → β → Prop} : ∀ {L : List α} {M : List β}, Paired R L M → L.length = M.length
  | _, _, .nil => rfl
  | _, _, .cons _ t => by simp [Paired.len t]
end
end AL
set_option Elab.async false
set_option linter.all false
set_option autoImplicit false
set_option maxRecDepth 100000
set_option maxHeartbeats 4000000
namespace PySem
open Sem (wp)
open AutoSeq1 (wpAny_loadPart')
theorem meets_enumerate_newTup (l : Addr) (items : Array Value) (n : Nat) (dct : Option Addr) (sl : Array (Option Value)) :
    Meets (Builtin.«enumerate.__new__» ⟨[.type "enumerate", .ref l], []⟩) (fun _ R s => s.heap.get? l = some { cls := .type "tuple", dict := dct, data := .seq items n, slots := sl } ∧
      R (.ok (.ret (.ref (s.heap.push { cls := .type "tuple_iterator", data := .fields #[.ref l, .int 0 0] }).objs.size)))
        { s with heap := (s.heap.push { cls := .type "tuple_iterator", data := .fields #[.ref l, .int 0 0] }).push { cls := .type "enumerate", data := .fields #[.none, .bool false, .ref s.heap.objs.size, rawInt 0, .none, .none] } }) :=
  .of_wp fun prog w A R s h => by
    obtain ⟨hp, g, d, tk, os⟩ := s; obtain ⟨hl, h⟩ := h
    have hsub := sub_enumerate
    have hL : Heap.IsTuple (Shared.heap ⟨hp, g, d, tk, os⟩) l items := ⟨_, hl, rfl, n, rfl⟩
    wp_walk using wpAny_loadPart' hl
    refine wpAny_stack_any fun st => wpAny_pure ?_
    split
    · rename_i c _ _ _ _ _
      cases (c == Value.type "enumerate")
      · wp_walk using wpAny_loadPart' hl, wpAny_pyIter_tuple hL
        exact ⟨_, rfl, h⟩
      · wp_walk using wpAny_loadPart' hl, wpAny_pyIter_tuple hL
        exact ⟨_, rfl, h⟩
    · wp_walk using wpAny_loadPart' hl, wpAny_pyIter_tuple hL
      exact ⟨_, rfl, h⟩
theorem call_enumerate_tup {prog : Program} {w : World} {A : Around} {E : Value → Shared → Prop} {s : Shared} {l : Addr} {items : Array Value} {Q : Value → Shared → Prop} (hL : s.heap.IsTuple l items)
    (h : ∀ h', IsEnum h' (s.heap.objs.size + 1) s.heap.objs.size 0 .none → h'.IsTupleIter s.heap.objs.size l 0 → h'.objs.size = s.heap.objs.size + 2 →
      (∀ b o, s.heap.get? b = some o → h'.get? b = some o) → Q (.ref (s.heap.objs.size + 1)) { s with heap := h' }) :
    wpAny (model prog w) A (call (.type "enumerate") [.ref l]) Q E s := by
  obtain ⟨⟨c, dct, dt, sl⟩, hl, hc, n, hd⟩ := hL
  replace hc : c = .type "tuple" := hc
  replace hd : dt = .seq items n := hd
  subst hc hd
  refine callType_new F.called_enumerate (by decide) (F.typeCall_enumerate_1 _) (F.newCall_enumerate_1 _) (fun obj => F.args_object_init_2 obj _) F.entry_enumerate_new
    (meets_enumerate_newTup l items n dct sl) ⟨hl, ?_⟩
  have hz : (s.heap.push { cls := .type "tuple_iterator", data := .fields #[.ref l, .int 0 0] }).objs.size = s.heap.objs.size + 1 := Heap.size_push ..
  show _ ∧ _
  rw [hz]
  have he : IsEnum ((s.heap.push { cls := .type "tuple_iterator", data := .fields #[.ref l, .int 0 0] }).push
      { cls := .type "enumerate", data := .fields #[.none, .bool false, .ref s.heap.objs.size, rawInt 0, .none, .none] }) (s.heap.objs.size + 1) s.heap.objs.size 0 .none := by
    have := Heap.get?_push_size (s.heap.push { cls := .type "tuple_iterator", data := .fields #[.ref l, .int 0 0] })
      (o := { cls := .type "enumerate", data := .fields #[.none, .bool false, .ref s.heap.objs.size, rawInt 0, .none, .none] }) rfl
    rw [hz] at this; exact this
  refine ⟨⟨_, he, rfl⟩, h _ he ⟨_, Heap.get?_push_of_some _ (Heap.get?_push_size _ rfl), rfl, rfl⟩ (by rw [Heap.size_push, hz]) fun b o x => Heap.get?_push_of_some _ (Heap.get?_push_of_some _ x)⟩
end PySem
namespace AL
open PySem PySem.Spec PyProof.Rows L2
def IteT (K : PySem.W.Frag) (a : Addr) : It :=
  ⟨fun i H => ∃ (xs : List V) (x : V), SqT K H a xs ∧ xs[i]? = some x, fun i H v H' => ∃ T x, v = .ref T ∧ H T = none ∧ H' = upd H T (.tup [.int (i : Nat), x]) ∧ ∀ xs, SqT K H a xs → xs[i]? = some x, fun i H => ∃ xs : List V, SqT K H a xs ∧ xs.length ≤ i⟩
theorem pyNext_enumT_end {prog : Program} {w : World} {A : Around} {E : Value → Shared → Prop} {s : Shared} {e it t : Addr} {n : Nat} {items : Array Value} {i : Int} {old : Value} {Q : Option Value → Shared → Prop} (hh : A.handled = none)
    (he : IsEnum s.heap e it i old) (hit : s.heap.IsTupleIter it t n) (ht : s.heap.IsTuple t items) (hx : items[n]? = none)
    (hQ : ∀ h', Heap.ExtBut it s.heap h' → Q none { s with heap := h' }) : wpAny (model prog w) A (pyNext (.ref e)) Q E s := by
  have hT : s.TypeIs (.ref e) "enumerate" := ⟨_, he, rfl⟩
  unfold pyNext
  refine wpAny_bind (wpAny_attempt (wpAny_callSpecial?_slot (name := Str.ofString "__next__") hT F.slot_enumerate_next
    (wpAny_call_entry F.slot_enumerate_next hT F.entry_enumerate_next ?_ (F.args_enumerate_next_1 _))))
  show wpAny _ _ (field (.ref e) 2 >>= _) _ _ _
  refine wpAny_bind (wpAny_field he rfl (x := .ref it) rfl ?_)
  refine wpAny_bind (wpAny_nextOf_tuple_end hh hit ht hx fun h' x he' hx' => ?_)
  obtain ⟨o, ho, hc⟩ := hx'
  refine wpAny_bind (wpAny_isInstance (T := "StopIteration") (b := true) ⟨o, ho, hc⟩ isSubtype_stop ?_)
  exact wpAny_pure (hQ _ he')
theorem turn_enumT {P : Program} {w : World} {K : PySem.W.Frag} {elts : List Expr} {kk : Nat} {tpos : Pos} (a e it : Addr) :
    Turn P w K (.Tuple elts kk tpos) (IteT K a) [e, it] e (fun i h => (∃ old, IsEnum h e it ((i : Nat) : Int) old) ∧ h.IsTupleIter it a i ∧ e ≠ it) where
  mem := by simp
  obj := fun i h st b hb => by
    obtain ⟨⟨old, he⟩, ⟨o, ho, hc, hd⟩, _⟩ := st
    have e' : b = e ∨ b = it := by simpa using hb
    rcases e' with z | z
    · rw [z]; exact ⟨_, he, fun v q => nomatch q⟩
    · rw [z]; exact ⟨o, ho, fun v q => by rw [hd] at q; cases q⟩
  keep := fun i h h' st k => let ⟨⟨old, he⟩, hi, hne⟩ := st; ⟨⟨old, k e (by simp) _ he⟩, hi.at fun o q => k it (by simp) o q, hne⟩
  item := by
    intro X hP hw hK hc i pins s σ H E I hf st hg
    subst hP hw hK
    obtain ⟨⟨old, he⟩, hit, hne⟩ := st
    obtain ⟨xs, x, hq, hx⟩ := hg
    obtain ⟨its, rv, p, hz⟩ := I.tuple hq
    obtain ⟨u, hu, ru⟩ := rv.get hx
    have hel : e < s.heap.objs.size := Heap.lt_size he
    have hil : it < s.heap.objs.size := by obtain ⟨_, q, _⟩ := hit; exact Heap.lt_size q
    have hT : s.heap.IsTuple a its.toArray := p
    have hai : a ≠ it := by
      rintro rfl
      obtain ⟨o, h1, h2, _⟩ := hT
      obtain ⟨o', h3, h4, _⟩ := hit
      rw [h1] at h3; cases h3
      rw [h2] at h4; exact absurd (Value.type.inj h4) (by decide)
    have hae : e ≠ a := by
      rintro rfl
      obtain ⟨o, h1, h2, _⟩ := hT
      have he' : s.heap.get? e = some _ := he
      rw [h1] at he'
      have h5 := Option.some.inj he'
      rw [h5] at h2
      exact absurd (Value.type.inj h2) (by decide)
    have hil' : i < its.toArray.size := by
      have := (List.getElem?_eq_some_iff.mp hu).1
      simpa using this
    refine wpAny_pyNext_enum_itemD (Draws.tuple (show X.A.in1.handled = none from I.ok.hd hc) it a hai its.toArray) he ⟨hit, hT⟩ hil' hne (by simp [hne, hae]) fun x' h' tk hP ho hSt hTT hsz hk => ?_
    have hxu : x' = u := by
      have h1 : its.toArray[i]? = some x' := hP
      have h2 : its.toArray[i]? = some u := by simpa using hu
      rw [h1] at h2
      exact Option.some.inj h2
    subst hxu
    refine ⟨_, rfl, wpAny_letOwnedTupleGo_enum (s := { s with heap := h', toks := tk + 1 }) ho fun h'' he' sb => ?_⟩
    have hT2 : h''.get? s.heap.objs.size = some { cls := .type "tuple", data := .seq #[.int i tk, x'] } := (sb.2 _ (Nat.ne_of_gt hel)).trans hTT
    have new : ObjOk X.prog X.w (upd H s.heap.objs.size (.tup [.int (i : Nat), x])) h'' s.heap.objs.size (.tup [.int (i : Nat), x]) :=
      ⟨by show 2 ≤ sizeLine; decide, [.int i tk, x'], .cons ⟨_, rfl⟩ (.cons ru .nil), ⟨_, hT2, rfl, _, rfl⟩⟩
    have I1 : Inv X pins σ (upd H s.heap.objs.size (.tup [.int (i : Nat), x])) { s with heap := h'', toks := tk + 1 } :=
      I.turnedNew (ch := [e, it]) (fun b ob hb q => (sb.2 b (fun z => hb (by simp [z]))).trans (hk b ob (fun z => hb (by simp [z])) (fun z => hb (by simp [z])) q)) hf (Nat.le_refl _) new
    refine ⟨.ref s.heap.objs.size, _, I1, rfl, ⟨_, x, rfl, I.hok.fresh (Nat.le_refl _), rfl, fun ys hy => by rw [I.tuple_inj hy hq]; exact hx⟩, ⟨⟨x', ?_⟩, hSt.1.at fun o q => (sb.2 it (Ne.symm hne)).trans q, hne⟩, fun b hb => ?_⟩
    · have e1 : ((i + 1 : Nat) : Int) = (i : Int) + 1 := by omega
      rw [e1]; exact he'
    · have hb' : b < s.heap.objs.size := by
        have e' : b = e ∨ b = it := by simpa using hb
        rcases e' with z | z
        · rw [z]; exact hel
        · rw [z]; exact hil
      rw [upd_ne (Nat.ne_of_lt hb')]
      exact (hf b hb).1
  done := by
    intro X hP hw hK hc i pins s σ H E I hf st hg
    subst hP hw hK
    obtain ⟨⟨old, he⟩, hit, hne⟩ := st
    obtain ⟨xs, hq, hx⟩ := hg
    obtain ⟨its, rv, p, hz⟩ := I.tuple hq
    obtain ⟨f0, f1, f2, f3, f4, f5⟩ := hf it (by simp)
    have hl := rv.length
    exact pyNext_enumT_end (I.ok.hd hc) he hit (show s.heap.IsTuple a its.toArray from p) (by simp; omega) fun h' eb => ⟨rfl, I.turned (t' := s.toks) (fun b o hb q => eb b o hb q) f0 f1 f3 f4 f5⟩
  self := fun A i s Q E st h => let ⟨⟨_, he⟩, _⟩ := st; wpAny_pyIter_enum he h
def iEnumT (K : PySem.W.Frag) (ta : TA) : TI := fun σ H R => ta σ H fun vs H1 => ∃ a xs, vs = [.ref a] ∧ ((SqL K H1 a xs ∧ R (Ite K a) H1) ∨ (SqT K H1 a xs ∧ R (IteT K a) H1))
theorem pi_enumT {X : Cx} {e : Expr} {ta : TA} {p pos tpos : Pos} {elts : List Expr} {kk : Nat} (hg : Gl X "enumerate") (hm : X.mg "enumerate" = none) (ha : PA X [e] ta) (hs : starEach [e] X.env = [(false, eval e X.env)] := by rfl) :
    PI X (.Tuple elts kk tpos) (.Call (.Name "enumerate" p) [e] [] pos) (iEnumT X.K ta) := by
  refine ⟨fun pins s σ H R I h => ?_⟩
  refine Call_ (ld_blt I hg hm boot_enumerate (PyProof.Rows.callWith_type1 (thn (ha.run pos pins s σ H _ I h) fun us s1 ⟨vs, H1, I1, r1, q1⟩ => ?_) hs rfl))
  obtain ⟨a, xs, ex, q⟩ := q1
  subst ex
  cases r1 with
  | cons r rr =>
    cases rr
    cases r
    rcases q with ⟨hq, q⟩ | ⟨hq, q⟩
    · obtain ⟨its, rv, p', hz⟩ := I1.list hq
      refine call_enumerate_list p'.isList fun h' he hit hsz hk => wpAny_pyIter_enum he ?_
      have I2 : Inv X pins σ H1 { s1 with heap := h' } := I1.kept (t' := s1.toks) hk
      refine ⟨s1.heap.objs.size + 1, [s1.heap.objs.size + 1, s1.heap.objs.size], _, _, H1, rfl, I2, turn_enum a (s1.heap.objs.size + 1) s1.heap.objs.size, ⟨⟨.none, he⟩, hit, Nat.succ_ne_self _⟩, fun b hb => ?_, q⟩
      have e' : b = s1.heap.objs.size + 1 ∨ b = s1.heap.objs.size := by simpa using hb
      have hle : s1.heap.objs.size ≤ b := by
        rcases e' with z | z
        · rw [z]; exact Nat.le_add_right _ _
        · rw [z]; exact Nat.le_refl _
      exact I1.fpOk hle (I1.hok.fresh hle)
    · obtain ⟨its, rv, p', hz⟩ := I1.tuple hq
      refine call_enumerate_tup (show s1.heap.IsTuple a its.toArray from p') fun h' he hit hsz hk => wpAny_pyIter_enum he ?_
      have I2 : Inv X pins σ H1 { s1 with heap := h' } := I1.kept (t' := s1.toks) hk
      refine ⟨s1.heap.objs.size + 1, [s1.heap.objs.size + 1, s1.heap.objs.size], _, _, H1, rfl, I2, turn_enumT a (s1.heap.objs.size + 1) s1.heap.objs.size, ⟨⟨.none, he⟩, hit, Nat.succ_ne_self _⟩, fun b hb => ?_, q⟩
      have e' : b = s1.heap.objs.size + 1 ∨ b = s1.heap.objs.size := by simpa using hb
      have hle : s1.heap.objs.size ≤ b := by
        rcases e' with z | z
        · rw [z]; exact Nat.le_add_right _ _
        · rw [z]; exact Nat.le_refl _
      exact I1.fpOk hle (I1.hok.fresh hle)
/-- enumerate of a list or a tuple -/
def iEnumA (f : FE) : FI := fun sl cs => (f sl cs).bind fun v cs1 => match v with
  | .tup xs => .ok (.fz (enumL 0 xs)) cs1
  | v => match asL cs1 v with
    | some xs => if isFz v = true then .ok (.fz (enumL 0 xs)) cs1 else .ok (.lv (enumIt v)) cs1
    | none => .bad
theorem it_enumT {K : PySem.W.Frag} {mg : Str → Option Value} {U0 : Hp} {μ0 : List Addr} {xs : List Pv} {a : Addr} {ws : List V} (hU : U0 a = some (.tup ws)) (hR : RepVs K mg U0 μ0 xs ws) : ItOk K mg (Src.fz (enumL 0 xs)).it (IteT K a) U0 μ0 := by
  intro U H μ cs i e m r
  have s1 : SqT K H a ws := .of (r.vh _ _ (e _ _ hU))
  have q1 := hR.mono e m
  have hl : (enumL 0 xs).length = ws.length := by unfold enumL; rw [List.length_mapIdx, q1.length]
  show match (if i ≤ (enumL 0 xs).length then some (enumL 0 xs)[i]? else none) with | some (some p) => _ | some none => _ | none => _
  by_cases hle : i ≤ (enumL 0 xs).length
  case neg => rw [if_neg hle]; trivial
  rw [if_pos hle]
  cases hp : xs[i]? with
  | none =>
    have hn : (enumL 0 xs)[i]? = none := by unfold enumL; rw [List.getElem?_mapIdx, hp]; rfl
    rw [hn]
    exact ⟨ws, s1, by have := List.getElem?_eq_none_iff.mp hn; omega⟩
  | some y =>
    have hn : (enumL 0 xs)[i]? = some (.tup [.int ((0 + i : Nat) : Int), y]) := by unfold enumL; rw [List.getElem?_mapIdx, hp]; rfl
    rw [hn]
    obtain ⟨v, a1, a2⟩ := q1.at hp
    refine ⟨⟨ws, v, s1, a1⟩, fun z H' yl => ?_⟩
    obtain ⟨T, z1, rfl, hT, rfl, f1⟩ := yl
    have e1 : z1 = v := Option.some.inj ((f1 ws s1).symm.trans a1)
    subst e1
    obtain ⟨r1, g1⟩ := r.freeze (o := .tup [.int (i : Nat), z1]) hT
    refine ⟨_, g1, r1, .tup upd_same (.cons ?_ (.cons (a2.mono g1.vv g1.mm) .nil))⟩
    rw [Nat.zero_add]
    exact .int _
theorem i_enumA {X : Cx} {W : WE} {f : FE} {e : Expr} {p pos tpos : Pos} {elts : List Expr} {kk : Nat} (hm : X.mg "enumerate" = none) (ha : PE X e (rdE X.K X.mg W f)) (hg : Gl X "enumerate" := by rfl) (hs : starEach [e] X.env = [(false, eval e X.env)] := by rfl) :
    PI X (.Tuple elts kk tpos) (.Call (.Name "enumerate" p) [e] [] pos) (rdI X.K X.mg W (iEnumA f)) := PI.le (pi_enumT hg hm (a_cons ha a_nil hs) hs) fun σ H R q => by
  obtain ⟨sl, cs, μ, U, r0, rs, q⟩ := q
  refine ⟨sl, cs, μ, U, r0, rs, ?_⟩
  unfold iEnumA at q
  show Out _ _ _ _ _ _ _ ((f sl cs).bind fun v cs1 => (Res.ok [] cs1).bind fun vs cs2 => .ok (v :: vs) cs2) _
  cases hf : f sl cs with
  | bad => rw [hf] at q; exact q.elim
  | exn c fs cs1 => rw [hf] at q; exact q
  | ok v cs1 =>
    rw [hf] at q
    simp only [Res.bind_ok] at q ⊢
    intro w U1 H1 μ1 g1 r1 p1
    have q := Out.later g1 q
    cases p1 with
    | cons h1 h2 =>
      cases h2
      split at q
      · cases h1 with
        | tup hU hR =>
          rename_i a ws
          exact ⟨_, ws, rfl, .inr ⟨.of (r1.vh _ _ hU), q _ _ _ _ Gr.refl r1 (it_enumT hU hR)⟩⟩
      · rename_i hnt
        cases ex : asL cs1 v with
        | none => rw [ex] at q; exact q.elim
        | some xs =>
          rw [ex] at q
          obtain ⟨a, rfl, w1⟩ := asL_X r1 h1 ex
          obtain ⟨vs, s1, _⟩ := w1 _ _ _ _ _ (Ex.refl _) (List.prefix_refl _) r1 ex
          refine ⟨a, vs, rfl, .inl ⟨s1, ?_⟩⟩
          have hz := it_enum w1
          have q : Out X.K X.mg (fun U μ (s : Src) J => ItOk X.K X.mg s.it J U μ) (fun c d H => W.w c d σ H) U1 H1 μ1 (if isFz v = true then .ok (.fz (enumL 0 xs)) cs1 else .ok (.lv (enumIt v)) cs1) R := q
          split at q
          · rename_i hfz
            have e3 : enumIt v = (Src.fz (enumL 0 xs)).it := by
              funext i cs'
              unfold enumIt
              rw [asL_fz (cs := cs') (cs' := cs1) hfz, ex]
            rw [e3] at hz
            exact q _ _ _ _ Gr.refl r1 hz
          · exact q _ _ _ _ Gr.refl r1 hz
@[simp] theorem ap_enumT {f : FE} {sl : Sl} {cs : Cells} : iEnumA f sl cs = (f sl cs).bind fun v cs1 => match v with
  | .tup xs => .ok (.fz (enumL 0 xs)) cs1
  | v => match asL cs1 v with
    | some xs => if isFz v = true then .ok (.fz (enumL 0 xs)) cs1 else .ok (.lv (enumIt v)) cs1
    | none => .bad := rfl
end AL
set_option Elab.async false
set_option linter.all false
set_option autoImplicit false
set_option maxRecDepth 100000
set_option maxHeartbeats 4000000
namespace AL
open PySem PySem.Spec PyProof.Rows L2
/-- what stands of a class with its own ==; n of a built-in type, d of an own class may stand on the right -/
structure EqC where
  tab : List (Str × FN)
  bui : List String
  own : List Str
/-- the facts of the classes -/
def EqOk (P : Program) (w : World) (K : PySem.W.Frag) (mg : Str → Option Value) (base : Heap) (k : Nat) (E : EqC) : Prop := MTab P w K mg base k 1 "__eq__" E.tab ∧
  (∀ c m, E.tab.lookup c = some m → ∀ C, mg c = some (.ref C) → PySem.W.findIn K (.ref C) "__ne__" = some (some (.builtin "object.__ne__")) ∧ PySem.W.subIn K (.ref C) (.type "object") = some true ∧ (∀ t ∈ E.bui, PySem.W.notFirst K C (.type t) = true) ∧ ∀ d ∈ E.own, ∃ D, mg d = some (.ref D) ∧ InsK K D ∧ PySem.W.notFirst K C (.ref D) = true)
/-- the facts, class by class -/
def EqF (K : PySem.W.Frag) (mg : Str → Option Value) (bui : List String) (own : List Str) (c : Str) : Prop := ∀ C, mg c = some (.ref C) → PySem.W.findIn K (.ref C) "__ne__" = some (some (.builtin "object.__ne__")) ∧ PySem.W.subIn K (.ref C) (.type "object") = some true ∧ (∀ t ∈ bui, PySem.W.notFirst K C (.type t) = true) ∧ ∀ d ∈ own, ∃ D, mg d = some (.ref D) ∧ InsK K D ∧ PySem.W.notFirst K C (.ref D) = true
theorem EqOk.of {P : Program} {w : World} {K : PySem.W.Frag} {mg : Str → Option Value} {base : Heap} {k : Nat} {E : EqC} (T : MTab P w K mg base k 1 "__eq__" E.tab) (F : ∀ e ∈ E.tab, EqF K mg E.bui E.own e.1) : EqOk P w K mg base k E := ⟨T, fun c m h C hC => by
  have key : ∀ (L : List (Str × FN)), L.lookup c = some m → ∃ e ∈ L, e.1 = c := by
    intro L
    induction L with
    | nil => intro h; cases h
    | cons e L ih =>
      intro h
      rcases look_cons h with ⟨e1, _⟩ | h
      · exact ⟨e, List.mem_cons_self, e1.symm⟩
      · obtain ⟨e', h1, h2⟩ := ih h
        exact ⟨e', List.mem_cons_of_mem _ h1, h2⟩
  obtain ⟨e, he, rfl⟩ := key _ h
  exact F e he C hC⟩
end AL
set_option Elab.async false
set_option linter.all false
set_option autoImplicit false
set_option maxRecDepth 100000
set_option maxHeartbeats 4000000
namespace PySem.AutoSeq1
open Sem (wp)
theorem extend_any {T : String} (hT : T = "list" ∨ T = "tuple") (l : Addr) (items : Array Value) (n : Nat) (b : Addr) (items2 : Array Value) (n2 : Nat) (dd : Option Addr) (sl : Array (Option Value)) (hs0 : ¬(!items.isEmpty && Builtin.List.listTooLong (items.size + items2.size)) = true) (hs1 : items.size ≤ sizeLine) (hs2 : items.size + items2.size ≤ sizeLine + 1) :
    Meets (Builtin.«list.extend» ⟨[.ref l, .ref b], []⟩) (fun _ R s => s.heap.get? l = some { cls := .type "list", dict := none, data := .seq items n, slots := #[] } ∧ s.heap.get? b = some { cls := .type T, dict := dd, data := .seq items2 n2, slots := sl } ∧ R (.ok (.ret Value.none)) { s with heap := s.heap.update l (Obj.mapSeq fun x => x ++ items2), toks := s.toks }) := by
  rcases hT with rfl | rfl
  · exact .of_wp fun prog w A R s h => by
      obtain ⟨hp, g, d, tk, os⟩ := s; obtain ⟨hl, hb, h⟩ := h; have f1 := idx_int; have f2 := sub_tuple_tuple; have f3 := sub_list_list; have f4 := sub_tuple_list; have f5 := sub_list_tuple;
      have hz' : (items ++ items2).size ≤ sizeLine + 1 := by rw [Array.size_append]; exact hs2
      wp_walk using (wpAny_updateSeq hl rfl (hz := hs1) (_hz' := hz')), wpAny_loadPart' hl, wpAny_loadPart' hb; exact ⟨_, rfl, h⟩
  · exact .of_wp fun prog w A R s h => by
      obtain ⟨hp, g, d, tk, os⟩ := s; obtain ⟨hl, hb, h⟩ := h; have f1 := idx_int; have f2 := sub_tuple_tuple; have f3 := sub_list_list; have f4 := sub_tuple_list; have f5 := sub_list_tuple;
      have hz' : (items ++ items2).size ≤ sizeLine + 1 := by rw [Array.size_append]; exact hs2
      wp_walk using (wpAny_updateSeq hl rfl (hz := hs1) (_hz' := hz')), wpAny_loadPart' hl, wpAny_loadPart' hb; exact ⟨_, rfl, h⟩
end PySem.AutoSeq1
namespace AL
open PySem PySem.Spec PyProof.Rows L2
/-- xs.extend(ys), ys a list or a tuple -/
def rExtA (K : PySem.W.Frag) : V → List V → Hp → VK → Prop := fun x vs H Q => ∃ l b xs zs, x = .ref l ∧ vs = [.ref b] ∧ H l = some (.lst xs) ∧ (SqL K H b zs ∨ SqT K H b zs) ∧ xs.length + zs.length ≤ sizeLine ∧ Q .non (upd H l (.lst (xs ++ zs)))
theorem mt_extA {X : Cx} : MtM X "list.extend" (rExtA X.K) := by
  intro pins s σ H x vs v us Q I rx rv h
  obtain ⟨l, b, xs, zs, rfl, rfl, hH, hB, hz, q⟩ := h
  cases rx
  obtain ⟨u, rfl, ru⟩ := rv.one
  cases ru
  obtain ⟨z, its, n, r, hl, e⟩ := I.lstM hH
  have key : ∃ (T : String) (its2 : List Value) (n2 : Nat) (dd : Option Addr) (sl : Array (Option Value)), (T = "list" ∨ T = "tuple") ∧ Vals zs its2 ∧ s.heap.get? b = some { cls := .type T, dict := dd, data := .seq its2.toArray n2, slots := sl } := by
    rcases hB with hB | hB
    · obtain ⟨its2, rv2, ⟨⟨cls, dd, data, sl⟩, n2, ho, hc, hdn, hd⟩, _⟩ := I.list hB
      have hc1 : cls = Value.type "list" := hc
      have hd1 : data = Data.seq its2.toArray n2 := hd
      subst hc1 hd1
      exact ⟨"list", its2, n2, dd, sl, .inl rfl, rv2, ho⟩
    · obtain ⟨its2, rv2, ⟨⟨cls, dd, data, sl⟩, ho, hc, n2, hd⟩, _⟩ := I.tuple hB
      have hc1 : cls = Value.type "tuple" := hc
      have hd1 : data = Data.seq its2.toArray n2 := hd
      subst hc1 hd1
      exact ⟨"tuple", its2, n2, dd, sl, .inr rfl, rv2, ho⟩
  obtain ⟨T, its2, n2, dd, sl, hT, r2, e2⟩ := key
  have hl2 := r2.length
  have hsz : its.toArray.size + its2.toArray.size ≤ sizeLine := by rw [List.size_toArray, List.size_toArray]; omega
  have hlong : ¬ (!its.toArray.isEmpty && Builtin.List.listTooLong (its.toArray.size + its2.toArray.size)) = true := by
    rw [notLongL hsz, Bool.and_false]
    exact Bool.false_ne_true
  refine call_meets F.slot_list_extend ⟨_, e, rfl⟩ F.entry_list_extend (F.args_list_extend_2 _ _)
    (AutoSeq1.extend_any hT l its.toArray n b its2.toArray n2 dd sl hlong (by rw [List.size_toArray]; omega) (by omega)) ⟨e, e2, ?_⟩
  refine ⟨.non, _, I.lset (its' := its ++ its2) hH e (by simp) (r.append r2) ?_, rfl, q⟩
  rw [List.length_append]
  omega
def mExtend : FM := fun o vs cs => match o, vs with
  | .ref k, [v] => match cs[k]?, seqOf cs v with
    | some (.lst xs), some ys => guard_ (fits (xs.length + ys.length)) (.ok .non (cs.set k (.lst (xs ++ ys))))
    | _, _ => .bad
  | _, _ => .bad
theorem ok_extend {K : PySem.W.Frag} {mg : Str → Option Value} : OkM K mg mExtend (rExtA K) := by
  intro E p ps cs v vs U H μ Q r hp hps h
  unfold mExtend at h
  split at h
  · split at h
    · rename_i xs ys hk hy
      obtain ⟨hz, h⟩ := out_guard h
      cases hp with
      | ref hm =>
        cases hps with
        | cons h1 h2 =>
          cases h2
          obtain ⟨ws, q1, q2⟩ := r.cel _ _ _ hk hm
          obtain ⟨b, us, rfl, s1, s2⟩ := seqOf_ok r h1 hy
          refine ⟨_, _, ws, us, rfl, rfl, q1, s1, by have := fits.ok hz; rw [← q2.length, ← s2.length]; exact this, ?_⟩
          obtain ⟨r4, g4⟩ := r.put (c' := .lst (xs ++ ys)) (o := .lst (ws ++ us)) hk (fun z => nomatch z) hm ⟨_, rfl, q2.append s2⟩
          exact h _ _ _ _ g4 r4 .non
    · exact h.elim
  · exact h.elim
def mPop0 : FM := fun o vs cs => match o, vs with
  | .ref k, [] => match cs[k]? with
    | some (.lst xs) => match xs[xs.length - 1]? with
      | some y => .ok y (cs.set k (.lst xs.dropLast))
      | none => .bad
    | _ => .bad
  | _, _ => .bad
theorem RepVs.dropLast {K : PySem.W.Frag} {mg : Str → Option Value} {U : Hp} {μ : List Addr} : ∀ {ps : List Pv} {vs : List V}, RepVs K mg U μ ps vs → RepVs K mg U μ ps.dropLast vs.dropLast
  | _, _, .nil => .nil
  | _, _, .cons a .nil => .nil
  | _, _, .cons a (.cons b t) => .cons a (RepVs.dropLast (.cons b t))
theorem ok_pop0 {K : PySem.W.Frag} {mg : Str → Option Value} : OkM K mg mPop0 rPop := by
  intro E p ps cs v vs U H μ Q r hp hps h
  unfold mPop0 at h
  split at h
  · split at h
    · rename_i xs hk
      split at h
      · rename_i y hy
        cases hp with
        | ref hm =>
          cases hps
          obtain ⟨ws, q1, q2⟩ := r.cel _ _ _ hk hm
          obtain ⟨w, a1, a2⟩ := q2.at hy
          refine ⟨_, ws, w, rfl, rfl, q1, by rw [← q2.length]; exact a1, ?_⟩
          obtain ⟨r4, g4⟩ := r.put (c' := .lst xs.dropLast) (o := .lst ws.dropLast) hk (fun z => nomatch z) hm ⟨_, rfl, q2.dropLast⟩
          exact h _ _ _ _ g4 r4 (a2.mono g4.vv g4.mm)
      · exact h.elim
    · exact h.elim
  · exact h.elim
end AL
set_option Elab.async false
set_option linter.all false
set_option autoImplicit false
set_option maxRecDepth 100000
set_option maxHeartbeats 4000000
namespace AL
open PySem PySem.Spec PyProof.Rows L2
theorem mt_pop0 {X : Cx} : MtM X "list.pop" rPop := mt_pop
def fRep (t : FA) (f : FE) : FE := fun sl cs => (t sl cs).bind fun vs cs1 => guard_ (fits vs.length) ((f sl cs1).bind fun n cs2 => match n with
  | .int k => guard_ (decide (-1000000 ≤ k) && decide (k ≤ 1000000) && fits (vs.length * k.toNat)) (.ok (.lst (List.replicate k.toNat vs).flatten) cs2)
  | _ => .bad)
section
variable {X : Cx} {W : WE} {f : FE} {t : FA} {e : Expr} {es : List Expr} {pos pos1 : Pos}
@[simp] theorem ap_rep {sl : Sl} {cs : Cells} : fRep t f sl cs = (t sl cs).bind fun vs cs1 => guard_ (fits vs.length) ((f sl cs1).bind fun n cs2 => match n with
  | .int k => guard_ (decide (-1000000 ≤ k) && decide (k ≤ 1000000) && fits (vs.length * k.toNat)) (.ok (.lst (List.replicate k.toNat vs).flatten) cs2)
  | _ => .bad) := rfl
end
end AL
set_option Elab.async false
set_option linter.all false
set_option autoImplicit false
set_option maxRecDepth 100000
set_option maxHeartbeats 4000000
namespace AL
open PySem PySem.Spec PyProof.Rows L2
end AL
set_option Elab.async false
set_option linter.all false
set_option autoImplicit false
set_option maxRecDepth 100000
set_option maxHeartbeats 4000000
namespace AL
open PySem PySem.Spec PyProof.Rows L2
def lockC : Co → Option Pv
  | .dK kvs => some (.zk kvs)
  | .dT kvs => some (.zt kvs)
  | _ => none
/-- the dict of the slot i is not changed any more -/
def sLock (i : Nat) : FS := fun sl cs => match sl[i]? with
  | some (some (.ref k)) => match cs[k]? with
    | some c => match lockC c with
      | some p => .nx (sl.set i (some p)) (cs.set k .dead)
      | none => .bad
    | none => .bad
  | _ => .bad
def iDict (f : FE) : FI := fun sl cs => (f sl cs).bind fun v cs1 => match v with
  | .zk kvs => .ok (.fz (kvs.map fun kv => pvK kv.1)) cs1
  | .zt kvs => .ok (.fz (kvs.map fun kv => .tup (kv.1.map pvK))) cs1
  | _ => .bad
@[simp] theorem ap_lock {sl : Sl} {cs : Cells} (i : Nat) : sLock i sl cs = match sl[i]? with
  | some (some (.ref k)) => match cs[k]? with
    | some c => match lockC c with
      | some p => .nx (sl.set i (some p)) (cs.set k .dead)
      | none => .bad
    | none => .bad
  | _ => .bad := rfl
@[simp] theorem ap_lockK (xs : List (Key × Pv)) : lockC (.dK xs) = some (.zk xs) := rfl
@[simp] theorem ap_lockT (xs : List (List Key × Pv)) : lockC (.dT xs) = some (.zt xs) := rfl
@[simp] theorem ap_iDict {sl : Sl} {cs : Cells} {f : FE} : iDict f sl cs = (f sl cs).bind fun v cs1 => match v with
  | .zk kvs => .ok (.fz (kvs.map fun kv => pvK kv.1)) cs1
  | .zt kvs => .ok (.fz (kvs.map fun kv => .tup (kv.1.map pvK))) cs1
  | _ => .bad := rfl
end AL
set_option Elab.async false
set_option linter.all false
set_option autoImplicit false
set_option maxRecDepth 100000
set_option maxHeartbeats 4000000
namespace AL
open PySem PySem.Spec PyProof.Rows L2
end AL
set_option Elab.async false
set_option linter.all false
set_option autoImplicit false
set_option maxRecDepth 100000
set_option maxHeartbeats 4000000
namespace AL
open PySem PySem.Spec PyProof.Rows L2
end AL
set_option Elab.async false
set_option linter.all false
set_option autoImplicit false
set_option maxRecDepth 100000
set_option maxHeartbeats 4000000
namespace AL
open PySem PySem.Spec PyProof.Rows L2
end AL
set_option Elab.async false
set_option linter.all false
set_option autoImplicit false
set_option maxRecDepth 100000
set_option maxHeartbeats 4000000
namespace AL
open PySem PySem.Spec PyProof.Rows L2 PySem.SeqAt
def rNilG (K : PySem.W.Frag) (neg : Bool) : R2 := fun x y H Q => ∃ a b xs, x = .ref a ∧ y = .ref b ∧ SqL K H a xs ∧ SqL K H b [] ∧ Q (.bl (if neg = true then !xs.isEmpty else xs.isEmpty)) H
section
variable {X : Cx}
theorem op_neNil (hu : X.A.units < cLine) : OpR X (compareOp .NotEq) (rNilG X.K true) := by
  intro pins s σ H x y v u Q I rx ry h
  obtain ⟨a, b, xs, rfl, rfl, hx, hy, q⟩ := h
  obtain ⟨its, r1, h1, _⟩ := I.list hx
  obtain ⟨its2, r2, h2, _⟩ := I.list hy
  cases (show v = Value.ref a from rx)
  cases (show u = Value.ref b from ry)
  cases r2
  cases xs with
  | nil =>
    cases r1
    exact RcNeAt.lists (e := fun _ => true) h1.isList h2.isList rfl hu (fun j h1 _ => absurd h1 (by simp)) _ _ _ _ ⟨.bl _, H, I, rfl, q⟩
  | cons z zs =>
    cases r1
    exact RcNeAt.lists_lengths h1.isList h2.isList (by simp) hu _ _ _ _ ⟨.bl _, H, I, rfl, q⟩
end
def oNil (neg : Bool) : F2 := fun x y cs => match asL cs x, asL cs y with
  | some xs, some [] => .ok (.bl (if neg = true then !xs.isEmpty else xs.isEmpty)) cs
  | _, _ => .bad
theorem ok_nil {K : PySem.W.Frag} {mg : Str → Option Value} {neg : Bool} : Ok2 K mg (oNil neg) (rNilG K neg) := by
  intro E x y cs v w U H μ Q r hx hy h
  unfold oNil at h
  split at h
  · rename_i a ea eb
    obtain ⟨p, us, rfl, s1, q1⟩ := asL_ok r hx ea
    obtain ⟨q, ws, rfl, s2, q2⟩ := asL_ok r hy eb
    cases q2
    have e : us.isEmpty = a.isEmpty := by
      have := q1.length
      cases us <;> cases a <;> simp at this ⊢
    exact ⟨p, q, us, rfl, rfl, s1, s2, by rw [e]; exact out_val r (.bl _) h⟩
  · exact h.elim
end AL
set_option Elab.async false
set_option linter.all false
set_option autoImplicit false
set_option maxRecDepth 100000
set_option maxHeartbeats 4000000
namespace AL
open PySem PySem.Spec PyProof.Rows L2 PySem.W PySem.Calls
section
variable {prog : Program} {w : World} {A : Around} {E : Value → Shared → Prop} {s : Shared}
theorem collectT {l : Addr} {us : List Value} {Q : List Value → Shared → Prop} (ht : s.heap.IsTuple l us.toArray) (hz : us.length ≤ sizeLine)
    (q : Q us { s with heap := (s.heap.push (seqObj "list" #[] 0)).update s.heap.objs.size (Obj.mapSeq (· ++ us.toArray)) }) : wpAny (model prog w) A (collect (.ref l)) Q E s := by
  obtain ⟨ob, hob, hcl, m, hda⟩ := id ht
  have hob2 : (s.heap.push (seqObj "list" #[] 0)).get? l = some ob := Heap.get?_push_of_some _ hob
  have hnew : (s.heap.push (seqObj "list" #[] 0)).get? s.heap.objs.size = some (seqObj "list" #[] 0) := Heap.get?_push_size _ rfl
  have hsz2 : ((#[] : Array Value) ++ us.toArray).size ≤ sizeLine + 1 := by simp only [Array.size_append, List.size_toArray, List.length_nil]; omega
  have hback : ((#[] : Array Value) ++ us.toArray).toList = us := by simp
  unfold collect
  refine wpAny_bind (wpAny_runValue (codeAny_builtin entry_proto_collect' (show wpAny _ _ (do again (.builtin "list.__iadd__" ⟨[← newList [], .ref l], []⟩)) _ _ s from ?_)))
  refine wpAny_bind (wpAny_newList (wpAny_pure ⟨Code.quiet_builtin _ (by decide +kernel), codeAny_builtin entry_list_iadd' (show wpAny _ _ (Builtin.List.listExtendWith (.ref s.heap.objs.size) (.ref l) (.ref s.heap.objs.size)) _ _ { s with heap := s.heap.push (seqObj "list" #[] 0) } from ?_)⟩))
  unfold Builtin.List.listExtendWith
  refine wpAny_bind (wpAny_typeOf (T := "tuple") ⟨ob, hob2, hcl⟩ ?_)
  rw [if_pos (by simp [show (Value.type "tuple" == Value.type "tuple") = true from rfl])]
  refine wpAny_bind (listItems_at hob2 hda (wpAny_bind (listItems_at (xs := #[]) (n := 0) hnew rfl ?_)))
  rw [if_neg (by simp)]
  refine wpAny_bind (listUpdate_at (xs := #[]) (n := 0) hnew rfl (wpAny_pure ?_) (Nat.zero_le _) hsz2)
  refine (show wpAny (model prog w) A (do let o ← load s.heap.objs.size; match o.data with | .seq xs _ => pure xs.toList | _ => unsupported "internal:collect") Q E { s with heap := (s.heap.push (seqObj "list" #[] 0)).update s.heap.objs.size (Obj.mapSeq (· ++ us.toArray)) } from wpAny_bind (wpAny_load (get?_update_seq hnew _) ?_))
  show wpAny _ _ (pure ((#[] : Array Value) ++ us.toArray).toList) Q E _
  rw [hback]
  exact wpAny_pure q
variable {β : Type} {us : List Value} {bs : List β} {enc : β → PyData} {R : Value → β → Prop}
theorem sortedT_data {l : Addr} {Q : Value → Shared → Prop} (ht : s.heap.IsTuple l us.toArray) (e : EachIs R us bs) (er : EachIs (fun v b => ∃ as, Reads s.heap v (enc b) as) us bs) (hal : AllAlike (bs.map enc)) (hk : Sortable (bs.map enc)) (hz : bs.length ≤ sizeLine)
    (hu : ∀ b, b ∈ bs → A.units + 2 + (enc b).depth < cLine) (q : ∀ out, out.length = bs.length → EachIs R out (bs.mergeSort (dataLe false enc)) → Q (.ref (s.heap.objs.size + 1)) { s with heap := sortedAll s.heap us (List.toArray out) }) :
    wpAny (model prog w) A (call (.builtin "sorted") [.ref l]) Q E s := by
  have hz2 : us.length ≤ sizeLine := by rw [e.length]; exact hz
  have er2 : EachIs (fun v b => ∃ as, Reads (sortingHeap (copyHeap s.heap us) (s.heap.objs.size + 1) us) v (enc b) as) us bs := er.mono fun _ _ ⟨as, r⟩ => ⟨as, PyProof.Rows.Reads.keeps (fun _ _ => sorting_copy_old) r⟩
  have so := SortsAt.data (prog := prog) (w := w) (A := A.in1.in1) (s := { s with heap := sortingHeap (copyHeap s.heap us) (s.heap.objs.size + 1) us }) (each_map (R := fun v d => ∃ as, Reads (sortingHeap (copyHeap s.heap us) (s.heap.objs.size + 1) us) v d as) enc er2) hal hk (bound_map hu)
  have q2 := q _ (by rw [sortVals_length false rfl]; exact e.length) (sortVals_data false e er2 hal)
  refine call_function_entry kind_sorted plain_sorted entry_sorted (args_sorted1 _) ?_
  unfold Builtin.«sorted»
  refine wpAny_bind (m := checkCount "sorted" 1 1 _) (wpAny_pure (wpAny_bind (collectT ht hz2 (wpAny_bind (wpAny_newList ?_ hz2)))))
  have hsz : ((s.heap.push (seqObj "list" #[] 0)).update s.heap.objs.size (Obj.mapSeq (· ++ us.toArray))).objs.size = s.heap.objs.size + 1 := by rw [Heap.size_update, size_push']
  refine (show wpAny _ _ _ _ _ { s with heap := copyHeap s.heap us } from ?_)
  rw [hsz]
  refine wpAny_bind (wpAny_holding (wpAny_call_entry slot_list_sort ⟨_, copyHeap_at s.heap us, rfl⟩ entry_list_sort (show wpAny (model prog w) A.in1.in1 (Builtin.«list.sort» ⟨[.ref (s.heap.objs.size + 1)], []⟩) _ _ _ from ?_) (args_list_sort _)))
  exact list_sort_vals (s := { s with heap := copyHeap s.heap us }) (copyHeap_at s.heap us) so hz2 ⟨_, rfl, wpAny_pure ⟨_, rfl, q2⟩⟩
end
def rSortT (K : PySem.W.Frag) : List V → Hp → VK → Prop := fun vs H Q => ∃ a xs ds, vs = [V.ref a] ∧ (SqL K H a xs ∨ SqT K H a xs) ∧ DpAll K H xs ds ∧ SortOk ds ∧ ∀ p out, H p = none → EachIs (fun (x : V) (q : V × PyData) => x = q.1) out ((xs.zip ds).mergeSort (dataLe false Prod.snd)) → Q (.ref p) (upd H p (.lst out))
theorem cr_sortT {X : Cx} (hu : X.A.units + 130 < cLine) : CallR X (.builtin "sorted") (rSortT X.K) := by
  intro pins s σ H vs us Q I r h
  obtain ⟨a, xs, ds, rfl, hs, hd, hok, q⟩ := h
  rcases hs with hs | hs
  · exact cr_sortD hu pins s σ H [.ref a] us Q I r ⟨a, xs, ds, rfl, hs, hd, hok, q⟩
  obtain ⟨its, rv, hl, hz⟩ := I.tuple hs
  rw [Vals.ref1 r]
  have hlen : ds.length = xs.length := (dpAll_len hd).symm
  obtain ⟨as, hra⟩ := Dp.readsAll I ds xs _ hd rv
  have em : (xs.zip ds).map Prod.snd = ds := by rw [List.map_snd_zip]; omega
  have er : EachIs (fun v (b : V × PyData) => ∃ as, Reads s.heap v b.2 as) its (xs.zip ds) := by
    have := readsAll_eachIs hra
    rw [← em] at this
    exact each_of_map Prod.snd this
  refine sortedT_data (bs := xs.zip ds) (R := fun (u : Value) (q : V × PyData) => RelV q.1 u) (enc := Prod.snd) hl (zip_vals hlen rv) er (by rw [em]; exact hok.1) (by rw [em]; exact hok.2.1) (by rw [List.length_zip]; omega) (fun b hb => ?_) fun out hlo eo => ?_
  · have : b.2 ∈ ds := by rw [← em]; exact List.mem_map_of_mem hb
    have := hok.2.2 _ this
    omega
  · obtain ⟨out2, ro, eo2⟩ := un_each eo
    obtain ⟨ep, he'⟩ := PyProof.Rows.sortedAll_at s.heap its (List.toArray out)
    have hol : out2.length ≤ sizeLine := by
      rw [ro.length, hlo, List.length_zip]; omega
    exact ⟨.ref _, upd H (s.heap.objs.size + 1) (.lst out2), I.laid (t' := s.toks) (fun _ _ => PyProof.Rows.sortedAll_old) (Nat.le_succ _) ⟨hol, out, ep, ro, he'⟩, rfl, q _ _ (I.hok.fresh (Nat.le_succ _)) eo2⟩
open Classical in
noncomputable def mSortT : FN := fun vs cs => match vs with
  | [x] => match seqOf cs x with
    | some xs => match toPys xs with
      | some ds => if SortOk ds then guard_ (fits xs.length) (.ok (.lst (sortP xs ds)) cs) else .bad
      | none => .bad
    | none => .bad
  | _ => .bad
theorem ok_sortT {K : PySem.W.Frag} {mg : Str → Option Value} : OkC K mg mSortT (rSortT K) := by
  intro E ps cs vs U H μ Q r hx h
  unfold mSortT at h
  split at h
  · rename_i x
    cases hx with
    | cons h1 h2 =>
      cases h2
      split at h
      · rename_i xs e
        split at h
        · rename_i ds ed
          split at h
          · rename_i hok
            obtain ⟨hz, h⟩ := out_guard h
            obtain ⟨a, ws, rfl, s, q⟩ := seqOf_ok r h1 e
            refine ⟨a, ws, ds, rfl, s, toPys_ok r.vh q ed, hok, fun p out hp eo => ?_⟩
            exact out_lst r (sortP_rep (toPys_len ed) q eo) h p hp
          · exact h.elim
        · exact h.elim
      · exact h.elim
  · exact h.elim
theorem mSortT_map {α : Type} {f : α → Pv} {d : α → PyData} {L : List α} {v : Pv} (hv : v = .lst (L.map f) ∨ v = .tup (L.map f)) (hd : ∀ x ∈ L, toPy (f x) = some (d x)) (hok : SortOk (L.map d)) (hl : L.length ≤ 16777216) (cs : Cells) : mSortT [v] cs = .ok (.lst ((L.mergeSort (dataLe false d)).map f)) cs := by
  have h1 : toPys (L.map f) = some (L.map d) := toPys_map hd
  have hz : fits (L.map f).length = true := decide_eq_true (by rw [List.length_map]; exact hl)
  have hs : seqOf cs v = some (L.map f) := by rcases hv with rfl | rfl <;> rfl
  unfold mSortT
  simp only [hs, h1]
  rw [if_pos hok, guard_of hz, sortP_map]
end AL
set_option Elab.async false
set_option linter.all false
set_option autoImplicit false
set_option maxRecDepth 100000
set_option maxHeartbeats 4000000
namespace AL
open PySem PySem.Spec PyProof.Rows L2
theorem SeX.at {k : Kd} {h h' : Heap} {a : Addr} {its : Array Value} (x : SeX k h a its) (e : ∀ o, h.get? a = some o → h'.get? a = some o) : SeX k h' a its := by
  cases k with
  | l => exact Heap.IsList.at x e
  | t => exact Heap.IsTuple.at x e
theorem SeX.obj {k : Kd} {h : Heap} {a : Addr} {its : Array Value} (x : SeX k h a its) : ∃ o, h.get? a = some o := by
  cases k with
  | l => obtain ⟨o, ho, _⟩ := x; exact ⟨o, ho⟩
  | t => obtain ⟨o, ho, _⟩ := x; exact ⟨o, ho⟩
end AL
set_option Elab.async false
set_option linter.all false
set_option autoImplicit false
set_option maxRecDepth 100000
set_option maxHeartbeats 4000000
namespace AL
open PySem PySem.Spec PyProof.Rows L2
def fDictZ (f g : FE) : FE := fun sl cs => (f sl cs).bind fun x cs1 => (g sl cs1).bind fun y cs2 => match seqOf cs2 x, seqOf cs2 y with
  | some xs, some ys => match pairsP (pairUp xs ys) with
    | some kvs => guard_ (fits kvs.length) (.ok (.ref cs2.length) (cs2 ++ [.dK (mergeD [] kvs)]))
    | none => .bad
  | _, _ => .bad
@[simp] theorem ap_dictZ {f g : FE} {sl : Sl} {cs : Cells} : fDictZ f g sl cs = (f sl cs).bind fun x cs1 => (g sl cs1).bind fun y cs2 => match seqOf cs2 x, seqOf cs2 y with
  | some xs, some ys => match pairsP (pairUp xs ys) with
    | some kvs => guard_ (fits kvs.length) (.ok (.ref cs2.length) (cs2 ++ [.dK (mergeD [] kvs)]))
    | none => .bad
  | _, _ => .bad := rfl
end AL
set_option Elab.async false
set_option linter.all false
set_option autoImplicit false
set_option maxRecDepth 100000
set_option maxHeartbeats 4000000
namespace AL
open PySem PySem.Spec PyProof.Rows L2
structure Cl where
  cv : Value
  ix : Option Nat
  rd : Addr → Value → Option Addr → TS
def clEnds (ix : Option Nat) (D : Ends) : Ends := match ix with
  | none => D
  | some i => { nx := fun t G => D.nx (t.set i none) G, rt := D.rt, bk := fun t G => D.bk (t.set i none) G, ct := fun t G => D.ct (t.set i none) G }
def clSt (ix : Option Nat) (a : Addr) (σ : L2.St) : L2.St := match ix with
  | none => σ
  | some i => σ.set i (some (.ref a))
def wCl (K : PySem.W.Frag) (wo : WX) (D : Ends) : List Cl → WX
  | [] => wo
  | k :: r => fun cls d σ H => ∃ b, PySem.W.exmOne K cls k.cv = some b ∧ (b = true → ∀ a, H a = none → k.rd a cls d (clEnds k.ix D) (clSt k.ix a σ) H) ∧ (b = false → wCl K wo D r cls d σ H)
inductive ClOk (X : Cx) : List ExceptHandler → List Cl → Prop
  | nil : ClOk X [] []
  | bare {x : Str} {cv : Value} {rd : Addr → Value → Option Addr → TS} {b0 : Stmt} {bs : List Stmt} {np hp : Pos} {hds : List ExceptHandler} {l : List Cl} (nm : Names X x cv)
      (su : ∀ (a : Addr) (oe : Obj) (cls : Value) (d : Option Addr) (pn : List (Addr × Obj)), Zc cls d oe → (∃ vs, oe.data = .fields vs) → PSs (X.suite a ((a, oe) :: pn)) (b0 :: bs) (rd a cls d)) (r : ClOk X hds l) :
      ClOk X (.ExceptHandler (some (.Name x np)) none (b0 :: bs) hp :: hds) (⟨cv, none, rd⟩ :: l)
  | as {x n : Str} {i : Nat} {cv : Value} {rd : Addr → Value → Option Addr → TS} {b0 : Stmt} {bs : List Stmt} {np hp : Pos} {hds : List ExceptHandler} {l : List Cl} (nm : Names X x cv) (hi : X.N[i]? = some n) (hln : X.env.kindOf n = some .local)
      (su : ∀ (a : Addr) (oe : Obj) (cls : Value) (d : Option Addr) (pn : List (Addr × Obj)), Zc cls d oe → (∃ vs, oe.data = .fields vs) → PSs (X.suite a ((a, oe) :: pn)) (b0 :: bs) (rd a cls d)) (r : ClOk X hds l) :
      ClOk X (.ExceptHandler (some (.Name x np)) (some n) (b0 :: bs) hp :: hds) (⟨cv, some i, rd⟩ :: l)
section
variable {X : Cx} {body : List Stmt} {eh : ExceptHandler} {ehs : List ExceptHandler} {l : List Cl} {pos : Pos} {tb : WX → TS} {wo : WX}
theorem ps_mixE {orelse : List Stmt} {u : TS} (ho : PSs X orelse u) (hst : X.stack = X.env :: X.outer) (hfm : X.env.frame = some X.env.locals) (hN : X.N.Nodup) (tk : Takes X wo)
    (hb : ∀ (W : WX) (pn : List (Addr × Obj)) (xe : Value → Shared → Prop), Takes (X.tr pn xe) W → PassesOwn (model X.prog X.w) X.A X.env xe → PSs (X.tr pn xe) body (tb W)) (hh : ClOk X (eh :: ehs) l) :
    PS X (.Try body (eh :: ehs) orelse [] pos) (fun D σ H => tb (wCl X.K wo D l) { D with nx := u D } σ H) := by
  refine ⟨fun pins s σ H D I0 h => ?_⟩
  have ok0 := I0.ok
  have hfrs : X.A.frames = some (X.env :: X.outer) := by rw [ok0.frames, hst]
  refine wpAny_Try_except (wpAny_mono ((hb (wCl X.K wo D l) (X.pn ++ pins) (fun e t1 => wpAny (model X.prog X.w) X.A (noteFrame e X.env) (fun _ t2 => wpAny (model X.prog X.w) X.A (setFlight e none) (fun _ t3 => wpAny (model X.prog X.w) X.A (handleBy e X.env (eh :: ehs)) (SP X pins D) X.xe t3) X.xe t2) X.xe t1) (fun u t xx => ?_) PassesOwn.looking).run [] s σ H { D with nx := u D } (I0.toTry _) h) (fun fl t1 hsp => ?_) (fun e t1 he => he))
  · obtain ⟨ea, B, sI, pins', σ', H', cls, d, rfl, Jt, nb, up, sk, na, os, ag, ww⟩ := xx
    have Jn : Inv X pins σ' H' sI := Jt.ofTry ok0
    have sk' : Sky B (X.env :: X.outer) ea (Zc cls d) X.env.locals t.heap := by rw [← hst]; exact sk
    refine (show wpAny (model X.prog X.w) X.A (noteFrame (.ref ea) X.env) _ _ _ from Sky.land Zc.steady hfrs hfm sk' fun g3 fl3 up3 => ?_)
    have J3 : Inv X pins σ' H' { t with heap := g3 } := Jn.landed nb fl3.1 (up.trans up3) os ag
    obtain ⟨oe3, vs3, he3, hz3, hd3⟩ := fl3.there
    have nfr : ea ∉ frs (X.env :: X.outer) := fun hm => by
      obtain ⟨_, o', e', hnf⟩ := fl3.2.2.1.mem hm
      rw [he3] at e'; cases e'
      exact hnf _ hd3
    have nL : ea ≠ X.env.locals := fun z => nfr (List.mem_filterMap.mpr ⟨X.env, List.mem_cons_self, by rw [hfm, z]⟩)
    have nF : ea ∉ X.fs := fun hm => by
      obtain ⟨e, he, q⟩ := List.mem_filterMap.mp hm
      exact nfr (List.mem_filterMap.mpr ⟨e, List.mem_cons_of_mem _ he, q⟩)
    have T3 := J3.suite he3 hd3 na nL nF
    have LT : PySem.W.Looks (model X.prog X.w) g3 (typeOf (.ref ea)) cls := fun A Q E s k q => wpAny_typeOf_ref (k _ _ he3) (by rw [hz3.1]; exact q)
    have named : ∀ {x : Str} {cv : Value} {np : Pos} {Q : Value → Shared → Prop} {E : Value → Shared → Prop}, Names X x cv → Q cv { t with heap := g3 } → wpAny (model X.prog X.w) (X.A.mark (some (.ref ea))) (eval (.Name x np) X.env) Q E { t with heap := g3 } := fun {x cv np Q E} nm q => by
      obtain ⟨hg, hdb, hm | ⟨hm, hv, hnn⟩⟩ := nm
      · exact ld_glob (X := X.suite ea ((ea, oe3) :: (X.pn ++ pins))) T3 hg hm q hdb
      · exact ld_blt (X := X.suite ea ((ea, oe3) :: (X.pn ++ pins))) T3 hg hm hv q hnn hdb
    have go : ∀ {hds : List ExceptHandler} {l' : List Cl}, ClOk X hds l' → wCl X.K wo D l' cls d σ' H' → wpAny (model X.prog X.w) X.A (handleBy (.ref ea) X.env hds) (SP X pins D) X.xe { t with heap := g3 } := by
      intro hds l' hk
      induction hk with
      | nil =>
        intro ww
        refine wpAny_handleBy_nil ?_
        obtain ⟨k1, k2, k3, oe, vs, tT, oT, ts', he, hz, hd, h1, hr⟩ := id fl3
        unfold PySem.passOn
        refine wpAny_bind (wpAny_field he hd h1 ?_)
        rw [if_neg (show ¬ ((Value.ref tT == Value.none) = true) from by simp)]
        have last : wpAny (model X.prog X.w) X.A (setFlight (.ref ea) X.env.frame) (fun _ t4 => wpAny (model X.prog X.w) X.A (throw (.ref ea) : Sem Flow) (SP X pins D) X.xe t4) X.xe { t with heap := g3 } := by
          rw [hfm]
          exact HandSPX.setFlight_upZ fl3 fun g4 hh4 up4 => wpAny_throw (tk _ _ ⟨ea, B, sI, pins, σ', H', cls, d, rfl, Jn, nb, (up.trans up3).trans up4, .inr (.inr (by rw [hst]; exact hh4)), na, os, ag, ww⟩)
        first | exact wpAny_bind (wpAny_pure (wpAny_bind last)) | exact wpAny_bind last
      | bare nm su r ih =>
        intro ww
        obtain ⟨b, hb1, hyes, hno⟩ := ww
        refine wpAny_handleBy_cons (codeAny_handlers_test (named nm ((PySem.W.exm_one (M := model X.prog X.w) J3.kIn LT hb1).here ?_))) (by intro q; cases q)
        cases b with
        | false => exact (show wpAny _ X.A (handleBy (.ref ea) X.env _) _ _ _ from ih (hno rfl))
        | true =>
          refine codeAny_handlers_suite (HandSPX.lands_againZ fl3 fun g4 fl4 up4 => ?_)
          have J4 : Inv X pins σ' H' { t with heap := g4 } := Jn.landed nb fl4.1 ((up.trans up3).trans up4) os ag
          obtain ⟨oe4, vs4, he4, hz4, hd4⟩ := fl4.there
          refine wpAny_mono ((su ea oe4 cls d (X.pn ++ pins) hz4 ⟨_, hd4⟩).run [] _ _ H' _ (J4.suite he4 hd4 na nL nF) (hyes rfl ea na)) (fun f t6 hsp => ?_) (fun _ _ z => False.elim z)
          cases f with
          | next => obtain ⟨a6, b6, c6, d6⟩ := hsp; exact ⟨_, _, c6.unsuite ok0, d6⟩
          | brk => obtain ⟨a6, b6, c6, d6⟩ := hsp; exact ⟨_, _, c6.unsuite ok0, d6⟩
          | cont => obtain ⟨a6, b6, c6, d6⟩ := hsp; exact ⟨_, _, c6.unsuite ok0, d6⟩
          | ret u => obtain ⟨v6, a6, b6, c6, r6, d6⟩ := hsp; exact ⟨_, _, _, c6.unsuite ok0, r6, d6⟩
      | as nm hi hln su r ih =>
        rename_i x n i cv rd b0 bs np hp hds2 l2
        intro ww
        obtain ⟨b, hb1, hyes, hno⟩ := ww
        refine wpAny_handleBy_cons (codeAny_handlers_test (named nm ((PySem.W.exm_one (M := model X.prog X.w) J3.kIn LT hb1).here ?_))) (by intro q; cases q)
        cases b with
        | false => exact (show wpAny _ X.A (handleBy (.ref ea) X.env _) _ _ _ from ih (hno rfl))
        | true =>
          refine codeAny_handlers_suite_as (HandSPX.lands_againZ fl3 fun g4 fl4 up4 => ?_)
          have J4 : Inv X pins σ' H' { t with heap := g4 } := Jn.landed nb fl4.1 ((up.trans up3).trans up4) os ag
          obtain ⟨oe4, vs4, he4, hz4, hd4⟩ := fl4.there
          refine store_ok (X := X.suite ea ((ea, oe4) :: (X.pn ++ pins))) (v := .ref ea) (J4.suite he4 hd4 na nL nF) hN hi (.inl hln) rfl (fun t5 T5 => ?_) (.inr hln)
          refine wpAny_mono ((su ea oe4 cls d (X.pn ++ pins) hz4 ⟨_, hd4⟩).run [] t5 _ H' _ T5 (hyes rfl ea na)) (fun f t6 hsp => ?_) (fun _ _ z => False.elim z)
          have fin : ∀ {σ6 : L2.St} {H6 : Hp} {Q : Shared → Prop}, Inv (X.suite ea ((ea, oe4) :: (X.pn ++ pins))) [] σ6 H6 t6 → (∀ t7, Inv X pins (σ6.set i none) H6 t7 → Q t7) → wpAny (model X.prog X.w) X.A (do bindName X.env n .none; unbindBehindTheSuite X.env n hp) (fun _ t7 => Q t7) X.xe t6 := fun {σ6 H6 Q} T6 hq => gone_ok (T6.unsuite ok0) hN hi hln hq
          cases f with
          | next => obtain ⟨a6, b6, c6, d6⟩ := hsp; exact fin c6 fun t7 J7 => ⟨_, _, J7, d6⟩
          | brk => obtain ⟨a6, b6, c6, d6⟩ := hsp; exact fin c6 fun t7 J7 => ⟨_, _, J7, d6⟩
          | cont => obtain ⟨a6, b6, c6, d6⟩ := hsp; exact fin c6 fun t7 J7 => ⟨_, _, J7, d6⟩
          | ret u => obtain ⟨v6, a6, b6, c6, r6, d6⟩ := hsp; exact fin c6 fun t7 J7 => ⟨_, _, _, J7, r6, d6⟩
    exact go hh ww
  · cases fl with
    | next => obtain ⟨a6, b6, c6, d6⟩ := hsp; exact ho.run pins _ _ _ D (c6.ofTry ok0) d6
    | brk => obtain ⟨a6, b6, c6, d6⟩ := hsp; exact ⟨_, _, c6.ofTry ok0, d6⟩
    | cont => obtain ⟨a6, b6, c6, d6⟩ := hsp; exact ⟨_, _, c6.ofTry ok0, d6⟩
    | ret u => obtain ⟨v6, a6, b6, c6, r6, d6⟩ := hsp; exact ⟨_, _, _, c6.ofTry ok0, r6, d6⟩
theorem ps_mix (hst : X.stack = X.env :: X.outer) (hfm : X.env.frame = some X.env.locals) (hN : X.N.Nodup) (tk : Takes X wo)
    (hb : ∀ (W : WX) (pn : List (Addr × Obj)) (xe : Value → Shared → Prop), Takes (X.tr pn xe) W → PassesOwn (model X.prog X.w) X.A X.env xe → PSs (X.tr pn xe) body (tb W)) (hh : ClOk X (eh :: ehs) l) :
    PS X (.Try body (eh :: ehs) [] [] pos) (fun D σ H => tb (wCl X.K wo D l) D σ H) := ps_mixE pss_nil hst hfm hN tk hb hh
end
structure Hd where
  tab : List (Str × Bool)
  ix : Option Nat
  su : Str → List (Str × Pv) → FS
def noXS : RS → RS
  | .exn _ _ _ _ => .bad
  | r => r
@[simp] theorem noXS_nx (sl : Sl) (cs : Cells) : noXS (.nx sl cs) = .nx sl cs := rfl
@[simp] theorem noXS_rt (v : Pv) (cs : Cells) : noXS (.rt v cs) = .rt v cs := rfl
@[simp] theorem noXS_bk (sl : Sl) (cs : Cells) : noXS (.bk sl cs) = .bk sl cs := rfl
@[simp] theorem noXS_ct (sl : Sl) (cs : Cells) : noXS (.ct sl cs) = .ct sl cs := rfl
def pickH (c : Str) (fs : List (Str × Pv)) (sl : Sl) (cs : Cells) : List Hd → RS
  | [] => .exn c fs sl cs
  | h :: r => match h.tab.lookup c with
    | some true => match h.ix with
      | some i => goneS i (h.su c fs (sl.set i none) cs)
      | none => noXS (h.su c fs sl cs)
    | some false => pickH c fs sl cs r
    | none => .bad
def sTryM (body : FS) (hs : List Hd) : FS := fun sl cs => match body sl cs with
  | .exn c fs sl1 cs1 => pickH c fs sl1 cs1 hs
  | r => r
inductive TryOk (X : Cx) : List ExceptHandler → List Hd → Prop
  | nil : TryOk X [] []
  | bare {x : Str} {b0 : Stmt} {bs : List Stmt} {np hp : Pos} {hds : List ExceptHandler} {l : List Hd} {tab : List (Str × Bool)} {su : Str → List (Str × Pv) → FS} (T : XTry X.K X.mg x tab)
      (hsu : ∀ (a : Addr) (oe : Obj) (C : Addr) (d : Option Addr) (pn : List (Addr × Obj)), Zc (.ref C) d oe → (∃ vs, oe.data = .fields vs) → ∀ c fs, X.mg c = some (.ref C) → PSs (X.suite a ((a, oe) :: pn)) (b0 :: bs) (rdS X.K X.mg ⟨W0.w, none⟩ (su c fs)))
      (r : TryOk X hds l) (hg : Gl X x := by rfl) (hdb : (x == ("__debug__" : Str)) = false := by decide) : TryOk X (.ExceptHandler (some (.Name x np)) none (b0 :: bs) hp :: hds) (⟨tab, none, su⟩ :: l)
  | as {x n : Str} {i : Nat} {b0 : Stmt} {bs : List Stmt} {np hp : Pos} {hds : List ExceptHandler} {l : List Hd} {tab : List (Str × Bool)} {su : Str → List (Str × Pv) → FS} (T : XTry X.K X.mg x tab)
      (hsu : ∀ (a : Addr) (oe : Obj) (C : Addr) (d : Option Addr) (pn : List (Addr × Obj)), Zc (.ref C) d oe → (∃ vs, oe.data = .fields vs) → ∀ c fs, X.mg c = some (.ref C) → PSs (X.suite a ((a, oe) :: pn)) (b0 :: bs) (rdS X.K X.mg ⟨W0.w, some ⟨i, a, .ref C, fs, d⟩⟩ (su c fs)))
      (r : TryOk X hds l) (hg : Gl X x := by rfl) (hdb : (x == ("__debug__" : Str)) = false := by decide) (hi : X.N[i]? = some n := by rfl) (hln : X.env.kindOf n = some .local := by rfl) : TryOk X (.ExceptHandler (some (.Name x np)) (some n) (b0 :: bs) hp :: hds) (⟨tab, some i, su⟩ :: l)
section
variable {X : Cx} {w : WX} {body : List Stmt} {eh : ExceptHandler} {ehs : List ExceptHandler} {pos : Pos} {bf : FS} {hs : List Hd}
theorem TryOk.cl {hds : List ExceptHandler} {hs : List Hd} (h : TryOk X hds hs) : ∃ l : List Cl, ClOk X hds l ∧ ∀ (D : Ends) (c : Str) (fs : List (Str × Pv)) (sl : Sl) (cs : Cells) (U H : Hp) (μ : List Addr) (σ : L2.St) (C : Addr) (d : Option Addr), OutS X.K X.mg ⟨w, none⟩ D U H μ (pickH c fs sl cs hs) → Rel0 X.K X.mg cs μ U H → RelS X.K X.mg none U μ sl σ → X.mg c = some (.ref C) → XRep X.K X.mg U μ fs d → wCl X.K w D l (.ref C) d σ H := by
  induction h with
  | nil => exact ⟨[], .nil, fun D c fs sl cs U H μ σ C d q r0 rs hm hx => q C d σ U H μ Gr.refl r0 rs hm hx⟩
  | bare T hsu r hg hdb ih =>
    rename_i x b0 bs np hp hds l tab su
    obtain ⟨l2, h1, h2⟩ := ih
    obtain ⟨cx, hm0, hT⟩ := T
    refine ⟨⟨cx, none, fun a cls d => fun D σ H => ∃ C c fs, cls = .ref C ∧ X.mg c = some (.ref C) ∧ rdS X.K X.mg ⟨W0.w, none⟩ (su c fs) D σ H⟩ :: l2, .bare ⟨hg, hdb, .inl hm0⟩ (fun a oe cls d pn hz hf => ⟨fun pins s σ H D I h => by
      obtain ⟨C, c, fs, rfl, hm, h⟩ := h
      exact (hsu a oe C d pn hz hf c fs hm).run pins s σ H D I h⟩) h1, fun D c fs sl cs U H μ σ C d q r0 rs hm hx => ?_⟩
    unfold pickH at q
    simp only at q
    split at q
    · rename_i et
      refine ⟨true, hT c true et C hm, fun _ a ha => ⟨C, c, fs, rfl, hm, sl, cs, μ, U, r0, rs, ?_⟩, fun z => nomatch z⟩
      cases hsr : su c fs sl cs with
      | exn c2 fs2 sl2 cs2 => rw [hsr] at q; exact q.elim
      | nx sl2 cs2 => rw [hsr] at q; exact q
      | bk sl2 cs2 => rw [hsr] at q; exact q
      | ct sl2 cs2 => rw [hsr] at q; exact q
      | rt v cs2 => rw [hsr] at q; exact q
      | bad => rw [hsr] at q; exact q
    · rename_i et
      exact ⟨false, hT c false et C hm, fun z => (nomatch z), fun _ => h2 D c fs sl cs U H μ σ C d q r0 rs hm hx⟩
    · exact q.elim
  | as T hsu r hg hdb hi hln ih =>
    rename_i x n i b0 bs np hp hds l tab su
    obtain ⟨l2, h1, h2⟩ := ih
    obtain ⟨cx, hm0, hT⟩ := T
    refine ⟨⟨cx, some i, fun a cls d => fun D σ H => ∃ C c fs, cls = .ref C ∧ X.mg c = some (.ref C) ∧ rdS X.K X.mg ⟨W0.w, some ⟨i, a, .ref C, fs, d⟩⟩ (su c fs) D σ H⟩ :: l2, .as ⟨hg, hdb, .inl hm0⟩ hi hln (fun a oe cls d pn hz hf => ⟨fun pins s σ H D I h => by
      obtain ⟨C, c, fs, rfl, hm, h⟩ := h
      exact (hsu a oe C d pn hz hf c fs hm).run pins s σ H D I h⟩) h1, fun D c fs sl cs U H μ σ C d q r0 rs hm hx => ?_⟩
    unfold pickH at q
    simp only at q
    split at q
    · rename_i et
      refine ⟨true, hT c true et C hm, fun _ a ha => ⟨C, c, fs, rfl, hm, sl.set i none, cs, μ, U, r0, RelS.take (x := ⟨i, a, .ref C, fs, d⟩) rs hx, ?_⟩, fun z => nomatch z⟩
      cases hsr : su c fs (sl.set i none) cs with
      | nx sl2 cs2 => rw [hsr] at q; exact fun σ2 U2 H2 μ2 g2 r2 rs2 => q _ U2 H2 μ2 g2 r2 (rs2.gone i)
      | bk sl2 cs2 => rw [hsr] at q; exact fun σ2 U2 H2 μ2 g2 r2 rs2 => q _ U2 H2 μ2 g2 r2 (rs2.gone i)
      | ct sl2 cs2 => rw [hsr] at q; exact fun σ2 U2 H2 μ2 g2 r2 rs2 => q _ U2 H2 μ2 g2 r2 (rs2.gone i)
      | rt v cs2 => rw [hsr] at q; exact q
      | exn c2 fs2 sl2 cs2 => rw [hsr] at q; exact q.elim
      | bad => rw [hsr] at q; exact q.elim
    · rename_i et
      exact ⟨false, hT c false et C hm, fun z => (nomatch z), fun _ => h2 D c fs sl cs U H μ σ C d q r0 rs hm hx⟩
    · exact q.elim
theorem s_tryM (hN : X.N.Nodup) (tk : Takes X w)
    (hb : ∀ (W : WX) (pn : List (Addr × Obj)) (xe : Value → Shared → Prop), Takes (X.tr pn xe) W → PassesOwn (model X.prog X.w) X.A X.env xe → PSs (X.tr pn xe) body (rdS X.K X.mg ⟨W, none⟩ bf))
    (hh : TryOk X (eh :: ehs) hs) (hst : X.stack = X.env :: X.outer := by rfl) (hf : X.env.frame = some X.env.locals := by rfl) :
    PS X (.Try body (eh :: ehs) [] [] pos) (rdS X.K X.mg ⟨w, none⟩ (sTryM bf hs)) := by
  obtain ⟨l, h1, h2⟩ := hh.cl (w := w)
  refine PS.le (ps_mix (tb := fun W => rdS X.K X.mg ⟨W, none⟩ bf) (wo := w) hst hf hN tk hb h1) fun D σ H q => ?_
  obtain ⟨sl, cs, μ, U, r0, rs, q⟩ := q
  refine ⟨sl, cs, μ, U, r0, rs, ?_⟩
  unfold sTryM at q
  cases hbd : bf sl cs with
  | nx sl1 cs1 => rw [hbd] at q; exact q
  | rt v cs1 => rw [hbd] at q; exact q
  | bk sl1 cs1 => rw [hbd] at q; exact q
  | ct sl1 cs1 => rw [hbd] at q; exact q
  | bad => rw [hbd] at q; exact q
  | exn c fs sl1 cs1 =>
    rw [hbd] at q
    intro C d σ1 U1 H1 μ1 g1 r1 rs1 hm hx
    exact h2 D c fs sl1 cs1 U1 H1 μ1 σ1 C d (OutS.later g1 q) r1 rs1 hm hx
/-- try with an else -/
def sTryE (body : FS) (hs : List Hd) (ef : FS) : FS := fun sl cs => match body sl cs with
  | .exn c fs sl1 cs1 => pickH c fs sl1 cs1 hs
  | .nx sl1 cs1 => ef sl1 cs1
  | r => r
@[simp] theorem ap_tryE {ef : FS} {sl : Sl} {cs : Cells} : sTryE bf hs ef sl cs = match bf sl cs with
  | .exn c fs sl1 cs1 => pickH c fs sl1 cs1 hs
  | .nx sl1 cs1 => ef sl1 cs1
  | r => r := rfl
@[simp] theorem ap_tryM {sl : Sl} {cs : Cells} : sTryM bf hs sl cs = match bf sl cs with
  | .exn c fs sl1 cs1 => pickH c fs sl1 cs1 hs
  | r => r := rfl
end
end AL
set_option Elab.async false
set_option linter.all false
set_option autoImplicit false
set_option maxRecDepth 100000
set_option maxHeartbeats 4000000
namespace AL
open PySem PySem.Spec PyProof.Rows L2
def sRaise0 (x : Str) : FS := fun sl cs => .exn x [] sl cs
section
variable {X : Cx} {W : WE} {x : Str} {p pos pos2 : Pos}
@[simp] theorem ap_raise0 {sl : Sl} {cs : Cells} : sRaise0 x sl cs = .exn x [] sl cs := rfl
end
end AL
set_option Elab.async false
set_option linter.all false
set_option autoImplicit false
set_option maxRecDepth 100000
set_option maxHeartbeats 4000000
namespace AL
open PySem PySem.Spec PyProof.Rows L2
end AL
set_option Elab.async false
set_option linter.all false
set_option autoImplicit false
set_option maxRecDepth 100000
set_option maxHeartbeats 4000000
namespace AL
open PySem PySem.Spec PyProof.Rows L2
def gTL (n : Nat) (r : FGs) : FG := fun v sl cs => match asL cs v with
  | some xs => if xs.length = n then r xs sl cs else none
  | none => none
@[simp] theorem ap_gTL {sl : Sl} {cs : Cells} (n : Nat) (r : FGs) (xs : List Pv) : gTL n r (.lst xs) sl cs = if xs.length = n then r xs sl cs else none := rfl
end AL
set_option Elab.async false
set_option linter.all false
set_option autoImplicit false
set_option maxRecDepth 100000
set_option maxHeartbeats 4000000
namespace AL
open PySem PySem.Spec PyProof.Rows L2
abbrev FP := Sl → Cells → Res (List (Key × Pv))
def pNil : FP := fun _ cs => .ok [] cs
def pCons (k v : FE) (r : FP) : FP := fun sl cs => (k sl cs).bind fun kv c1 => (v sl c1).bind fun vv c2 => match keyP kv with
  | some key => (r sl c2).bind fun ps c3 => .ok ((key, vv) :: ps) c3
  | none => .bad
section
variable {sl : Sl} {cs : Cells}
@[simp] theorem ap_pNil : pNil sl cs = .ok [] cs := rfl
@[simp] theorem ap_pCons (k v : FE) (r : FP) : pCons k v r sl cs = (k sl cs).bind fun kv c1 => (v sl c1).bind fun vv c2 => match keyP kv with
  | some key => (r sl c2).bind fun ps c3 => .ok ((key, vv) :: ps) c3
  | none => .bad := rfl
end
end AL
set_option Elab.async false
set_option linter.all false
set_option autoImplicit false
set_option maxRecDepth 100000
set_option maxHeartbeats 4000000
namespace AL
open PySem PySem.Spec PyProof.Rows L2
def natsP (n : Nat) : List Pv := (List.range n).map fun (k : Nat) => .int (k : Int)
def fListR (f : FE) : FE := fun sl cs => (f sl cs).bind fun v cs1 => match v with
  | .int j => guard_ (rngOk j) (.ok (.lst (natsP j.toNat)) cs1)
  | _ => .bad
def fRepC (t : FA) (f : FE) : FE := fun sl cs => (t sl cs).bind fun vs cs1 => guard_ (fits vs.length) ((f sl cs1).bind fun n cs2 => match n with
  | .int k => guard_ (decide (-1000000 ≤ k) && decide (k ≤ 1000000) && fits (vs.length * k.toNat)) (.ok (.ref cs2.length) (cs2 ++ [.lst (List.replicate k.toNat vs).flatten]))
  | _ => .bad)
section
variable {X : Cx} {W : WE} {f : FE} {t : FA} {e : Expr} {es : List Expr} {pos pos1 p p2 : Pos}
@[simp] theorem ap_repC {sl : Sl} {cs : Cells} : fRepC t f sl cs = (t sl cs).bind fun vs cs1 => guard_ (fits vs.length) ((f sl cs1).bind fun n cs2 => match n with
  | .int k => guard_ (decide (-1000000 ≤ k) && decide (k ≤ 1000000) && fits (vs.length * k.toNat)) (.ok (.ref cs2.length) (cs2 ++ [.lst (List.replicate k.toNat vs).flatten]))
  | _ => .bad) := rfl
@[simp] theorem ap_listR {sl : Sl} {cs : Cells} : fListR f sl cs = (f sl cs).bind fun v cs1 => match v with
  | .int j => guard_ (rngOk j) (.ok (.lst (natsP j.toNat)) cs1)
  | _ => .bad := rfl
end
end AL
set_option Elab.async false
set_option linter.all false
set_option autoImplicit false
set_option maxRecDepth 100000
set_option maxHeartbeats 4000000
namespace AL
open PySem PySem.Spec PyProof.Rows L2
end AL
set_option Elab.async false
set_option linter.all false
set_option autoImplicit false
set_option maxRecDepth 100000
set_option maxHeartbeats 4000000
namespace AL
open PySem PySem.Spec PyProof.Rows L2
end AL
set_option Elab.async false
set_option linter.all false
set_option autoImplicit false
set_option maxRecDepth 100000
set_option maxHeartbeats 4000000
namespace AL
open PySem PySem.Spec PyProof.Rows L2
section
variable {K : PySem.W.Frag} {x : Str}
theorem tabAt_F : tabAt K x = (tabF K x).map (·.2) := by
  unfold tabAt tabF
  generalize PySem.W.nsIn K mainGlobals x = a
  rcases a with _ | _ | v <;> try rfl
  cases v <;> try rfl
  rename_i f
  simp only
  generalize K.lookup f = o
  rcases o with _ | ⟨oc, od, dt, sl⟩ <;> try rfl
  cases dt <;> try rfl
  rename_i fd
  simp only
  generalize fd.code = cv
  cases cv <;> try rfl
  rename_i c
  simp only
  generalize K.lookup c = o2
  rcases o2 with _ | ⟨oc2, od2, dt2, sl2⟩ <;> try rfl
  cases dt2 <;> try rfl
  rename_i vs
  simp only
  generalize (vs[11]? : Option Value) = e
  rcases e with _ | u <;> try rfl
  cases u <;> rfl
theorem tabsOf_F : tabsOf K = (tabsF K).map (·.2) := by
  unfold tabsOf tabsF tabNames
  rw [List.map_filterMap]
  exact congrArg (fun f => List.filterMap f _) (funext fun y => tabAt_F)
theorem tabsOf_C {p : Addr × Str} (h : p ∈ tabsOf K) : ∃ c, (c, p.1) ∈ tabsC K := by
  rw [tabsOf_F] at h
  obtain ⟨t, ht, rfl⟩ := List.mem_map.mp h
  exact ⟨t.1, List.mem_map.mpr ⟨t, ht, rfl⟩⟩
theorem sql_unT {H : Hp} {a : Addr} {xs : List V} (h : SqL K H a xs) : SqL K (unT H) a xs := by
  rcases h with (h | ⟨o, h⟩) | h
  · exact .inl (.inl (unT_some h fun ps z => by cases z))
  · exact .inl (.inr ⟨o, unT_some h fun ps z => by cases z⟩)
  · exact .inr h
end
theorem walk_ofM {l : PySem.W.OpenLaw} {n k : Nat} {q : Program} {loose : List Str} {XP : (Str → Option Value) → Heap → Prop} {YP : World → Heap → Prop} {d : DefRec} {CX : World → CXT} {x : Str} (hn : l.most = some n) (hn2 : n ≤ sizeLine) (hdf : d.params.defaults = []) (hr : Room k callerA)
    (F : ∀ (w : World) (mg : Str → Option Value) (fa : Addr) (h : Heap), YP w h → h.Ns mainGlobals mg → mg d.name = some (.ref fa) → ∃ (K : PySem.W.Frag) (fd : FuncData) (sp : Sp), K.In h ∧ (∀ p ∈ tabsC K, h.get? p.2 = some { cls := .none, data := .fields #[] } ∧ codeB K p.1 p.2 = true ∧ K.lookup p.2 = none) ∧
        (∀ (s : Shared) (u : Value), BindsTo s fd ⟨[u], []⟩ [(x, u)]) ∧
        (∀ base : Heap, K.In base → base.Ns mainGlobals mg → (∀ p ∈ tabsC K, LamX.TabB base mg p.1 p.2) → FnOk l.prog w K mg base (CX w) k fa fd [x] sp) ∧
        ∀ (H : Hp) (a : Addr) (ns : List Int), ns.length ≤ n → (∀ z ∈ ns, Builtin.Int.intBits z ≤ 1048576) → LamX.Tabs (tabsOf K) H → SqL K H a (ns.map V.int) → sp [.ref a] H (fun v _ => v = .bl true) fun _ _ _ => False)
    (hC : ∀ (w : World) (H : Hp) (s : Shared) (e : Value) (s' : Shared), CX w [] H s (fun _ _ _ => False) e s' → False) : PySem.W.WalkO q loose XP YP l.row.toRowW d [] (fun f vs => PySem.call f vs) := by
  refine LamX.walk_ofTsE (x := x) hn hn2 hdf hr (fun w mg fa h Y G e => ?_) hC
  obtain ⟨K, fd, sp, KX, hT, hb, hF, hs⟩ := F w mg fa h Y G e
  refine ⟨K, KX, fd, tabsC K, sp, fun p hp => (hT p hp).1, fun p hp => (hT p hp).2.2, fun p hp => codeB_ok KX (hT p hp).2.1, hb, fun H a ns h1 h2 h3 h4 => hs H a ns h1 h2 (fun p hp => ?_) h4, hF⟩
  obtain ⟨c, hc⟩ := tabsOf_C hp
  exact LamX.TabS.nil (h3 _ hc)
end AL
set_option Elab.async false
set_option linter.all false
set_option autoImplicit false
set_option maxRecDepth 100000
set_option maxHeartbeats 4000000
namespace AL
open PySem PySem.Spec PyProof.Rows L2
def iDVals (f : FE) : FI := fun sl cs => (f sl cs).bind fun v cs1 => match v with
  | .zk kvs => .ok (.fz (kvs.map (·.2))) cs1
  | _ => .bad
@[simp] theorem ap_iDVals {sl : Sl} {cs : Cells} {f : FE} : iDVals f sl cs = (f sl cs).bind fun v cs1 => match v with
  | .zk kvs => .ok (.fz (kvs.map (·.2))) cs1
  | _ => .bad := rfl
def mLenR : FN := fun vs cs => match vs with
  | [d] => match dkR cs d with
    | some kvs => .ok (.int kvs.length) cs
    | none => .bad
  | _ => .bad
@[simp] theorem v_lenZ (kvs : List (Key × Pv)) (cs : Cells) : mLenR [.zk kvs] cs = .ok (.int kvs.length) cs := rfl
end AL
set_option Elab.async false
set_option linter.all false
set_option autoImplicit false
set_option maxRecDepth 100000
set_option maxHeartbeats 4000000
namespace AL
open PySem PySem.Spec PyProof.Rows L2
abbrev TT := Addr × Value × Value
/-- the tuples made so far -/
structure TsOk (Rel : Nat → Value → Value → Prop) (h0 : Heap) (d : Addr) (wr : List Addr) (h : Heap) (ts : List TT) : Prop where
  tup : ∀ t ∈ ts, h.IsTuple t.1 #[t.2.1, t.2.2] ∧ h0.objs.size ≤ t.1 ∧ t.1 ∉ wr ∧ t.1 ≠ d
  nd : (ts.map (·.1)).Nodup
  rel : ∀ j t, ts[j]? = some t → Rel j t.2.1 t.2.2
theorem TsOk.at {Rel : Nat → Value → Value → Prop} {h0 h h' : Heap} {d : Addr} {wr : List Addr} {ts : List TT} (x : TsOk Rel h0 d wr h ts) (k : ∀ b o, b ≠ d → b ∉ wr → h.get? b = some o → h'.get? b = some o) : TsOk Rel h0 d wr h' ts :=
  ⟨fun t ht => by
    obtain ⟨a, b, c, e⟩ := x.tup t ht
    exact ⟨a.at fun o q => k _ o e c q, b, c, e⟩, x.nd, x.rel⟩
end AL
namespace AL
open PySem PySem.Spec PyProof.Rows L2
end AL
set_option Elab.async false
set_option linter.all false
set_option autoImplicit false
set_option maxRecDepth 100000
set_option maxHeartbeats 4000000
namespace AL
open PySem PySem.Spec PyProof.Rows L2
def fListZ (f g : FE) : FE := fun sl cs => (f sl cs).bind fun x cs1 => (g sl cs1).bind fun y cs2 => match seqOf cs2 x, seqOf cs2 y with
  | some xs, some ys => guard_ (fits (min xs.length ys.length)) (.ok (.lst (pairUp xs ys)) cs2)
  | _, _ => .bad
@[simp] theorem ap_listZ {f g : FE} {sl : Sl} {cs : Cells} : fListZ f g sl cs = (f sl cs).bind fun x cs1 => (g sl cs1).bind fun y cs2 => match seqOf cs2 x, seqOf cs2 y with
  | some xs, some ys => guard_ (fits (min xs.length ys.length)) (.ok (.lst (pairUp xs ys)) cs2)
  | _, _ => .bad := rfl
end AL
set_option Elab.async false
set_option linter.all false
set_option autoImplicit false
set_option maxRecDepth 100000
set_option maxHeartbeats 4000000
namespace AL
open PySem PySem.Spec PyProof.Rows L2
def oRepL : F2 := fun x y cs => match asL cs x, y with
  | some xs, .int k => guard_ (decide (-1000000 ≤ k) && decide (k ≤ 1000000) && fits (xs.length * k.toNat)) (.ok (.lst (List.replicate k.toNat xs).flatten) cs)
  | _, _ => .bad
@[simp] theorem v_repL (xs : List Pv) (k : Int) (cs : Cells) : oRepL (.lst xs) (.int k) cs = guard_ (decide (-1000000 ≤ k) && decide (k ≤ 1000000) && fits (xs.length * k.toNat)) (.ok (.lst (List.replicate k.toNat xs).flatten) cs) := rfl
end AL
set_option Elab.async false
set_option linter.all false
set_option autoImplicit false
set_option maxRecDepth 100000
set_option maxHeartbeats 4000000
namespace AL
open PySem PySem.Spec PyProof.Rows L2
open PySem.SeqAt MeetsSeq MeetsSeq2 MeetsSeq3 SeqRoads2
open AutoSeq1 (wpAny_loadPart')
end AL
set_option Elab.async false
set_option linter.all false
set_option autoImplicit false
set_option maxRecDepth 100000
set_option maxHeartbeats 4000000
namespace AL
open PySem PySem.Spec PyProof.Rows L2
mutual
/-- alike, item by item; the own == of instances within gives True and leaves the cells; n levels deep -/
inductive EqIn (E : EqC) (cs : Cells) : Nat → Pv → Pv → Prop
  | non {n : Nat} : EqIn E cs n .non .non
  | bl {n : Nat} (b : Bool) : EqIn E cs n (.bl b) (.bl b)
  | int {n : Nat} (i : Int) : EqIn E cs n (.int i) (.int i)
  | str {n : Nat} (x : Str) : EqIn E cs n (.str x) (.str x)
  | tup {n : Nat} {xs ys : List Pv} : EqInL E cs n xs ys → EqIn E cs (n + 1) (.tup xs) (.tup ys)
  | lst {n : Nat} {p q : Pv} {xs ys : List Pv} : asL cs p = some xs → asL cs q = some ys → EqInL E cs n xs ys → EqIn E cs (n + 1) p q
  | own {n : Nat} {p q : Pv} {c d : Str} {fs gs : List (Str × Pv)} {m : FN} : objOf cs p = some (c, fs) → objOf cs q = some (d, gs) → E.own.contains d = true → E.tab.lookup c = some m → m [p, q] cs = .ok (.bl true) cs → EqIn E cs n p q
inductive EqInL (E : EqC) (cs : Cells) : Nat → List Pv → List Pv → Prop
  | nil {n : Nat} : EqInL E cs n [] []
  | cons {n : Nat} {p q : Pv} {ps qs : List Pv} : EqIn E cs n p q → EqInL E cs n ps qs → EqInL E cs n (p :: ps) (q :: qs)
end
theorem EqInL.len {E : EqC} {cs : Cells} {n : Nat} : ∀ {xs ys : List Pv}, EqInL E cs n xs ys → xs.length = ys.length
  | _, _, .nil => rfl
  | _, _, .cons _ t => by rw [List.length_cons, List.length_cons, t.len]
theorem EqInL.at {E : EqC} {cs : Cells} {n : Nat} : ∀ {xs ys : List Pv} {i : Nat} {p q : Pv}, EqInL E cs n xs ys → xs[i]? = some p → ys[i]? = some q → EqIn E cs n p q
  | _, _, _, _, _, .nil, h, _ => by simp at h
  | _, _, 0, _, _, .cons h _, e1, e2 => by
    simp at e1 e2; subst e1; subst e2; exact h
  | _, _, i + 1, _, _, .cons _ t, e1, e2 => EqInL.at (i := i) t (by simpa using e1) (by simpa using e2)
section
variable {X : Cx}
/-- what stands behind: the cells as they were -/
def Kept (X : Cx) (cs : Cells) (pins : List (Addr × Obj)) (σ : L2.St) (U H : Hp) (μ : List Addr) (s' : Shared) : Prop := ∃ U' H' μ', Inv X pins σ H' s' ∧ Gr U H μ U' H' μ' ∧ Rel0 X.K X.mg cs μ' U' H'
/-- == of two items -/
def ItemOk (X : Cx) (cs : Cells) (m : Nat) (p q : Pv) : Prop := ∀ (A : Around) (pins : List (Addr × Obj)) (s : Shared) (σ : L2.St) (U H : Hp) (μ : List Addr) (x y : V) (u v : Value), Sub X m A → Inv X pins σ H s → RelV x u → RelV y v → Rel0 X.K X.mg cs μ U H → RepV X.K X.mg U μ p x → RepV X.K X.mg U μ q y →
  wpAny (model X.prog X.w) A (eqBool u v) (fun r s' => r = true ∧ Kept X cs pins σ U H μ s') X.xe s
/-- == or != of two lists or tuples -/
def PairOk (X : Cx) (cs : Cells) (m : Nat) (neg : Bool) (p q : Pv) : Prop := ∀ (A : Around) (pins : List (Addr × Obj)) (s : Shared) (σ : L2.St) (U H : Hp) (μ : List Addr) (x y : V) (u v : Value), Sub X m A → Inv X pins σ H s → RelV x u → RelV y v → Rel0 X.K X.mg cs μ U H → RepV X.K X.mg U μ p x → RepV X.K X.mg U μ q y →
  (∃ a b, u = .ref a ∧ v = .ref b) ∧ wpAny (model X.prog X.w) A (richCompare (bif neg then .NotEq else .Eq) u v) (fun r s' => r = .bool (!neg) ∧ Kept X cs pins σ U H μ s') X.xe s
theorem PairOk.item {cs : Cells} {m : Nat} {p q : Pv} (h : PairOk X cs m false p q) : ItemOk X cs m p q := by
  intro A pins s σ U H μ x y u v sb I rx ry r0 hp hq
  obtain ⟨⟨a, b, rfl, rfl⟩, hw⟩ := h A pins s σ U H μ x y u v sb I rx ry r0 hp hq
  by_cases hab : a = b
  · subst hab
    exact SeqAt.EqAt.same (A := A) (s := s) (.ref a) X.prog X.w X.xe _ ⟨rfl, U, H, μ, I, Gr.refl, r0⟩
  · exact GQ.eqBool_refG hab (wpAny_mono hw (fun r s' z => ⟨true, z.1, rfl, z.2⟩) fun _ _ x => x)
theorem ItemOk.mono {cs : Cells} {m m' : Nat} {p q : Pv} (h : ItemOk X cs m p q) (hm : m ≤ m') : ItemOk X cs m' p q := fun A pins s σ U H μ x y u v sb => h A pins s σ U H μ x y u v (sb.mono hm)
end
end AL
set_option Elab.async false
set_option linter.all false
set_option autoImplicit false
set_option maxRecDepth 100000
set_option maxHeartbeats 4000000
namespace AL
open PySem PySem.Spec PyProof.Rows L2
open PySem.SeqAt MeetsSeq MeetsSeq2 MeetsSeq3 SeqRoads2
open AutoSeq1 (wpAny_loadPart')
/-- the classes at which texts may stand on the left -/
def TxtOk (K : PySem.W.Frag) (mg : Str → Option Value) (E : EqC) : Prop := ∀ c m, E.tab.lookup c = some m → ∀ C, mg c = some (.ref C) → PySem.W.subIn K (.ref C) (.type "str") = some false
theorem TxtOk.nil {K : PySem.W.Frag} {mg : Str → Option Value} {bui : List String} {own : List Str} : TxtOk K mg ⟨[], bui, own⟩ := fun c m h => by cases h
theorem TxtOk.cons {K : PySem.W.Frag} {mg : Str → Option Value} {bui : List String} {own : List Str} {c0 : Str} {m0 : FN} {tab : List (Str × FN)} {C0 : Addr} (hg : mg c0 = some (.ref C0)) (hs : PySem.W.subIn K (.ref C0) (.type "str") = some false) (r : TxtOk K mg ⟨tab, bui, own⟩) : TxtOk K mg ⟨(c0, m0) :: tab, bui, own⟩ := fun c m h C hC => by
  rcases look_cons h with ⟨rfl, _⟩ | h
  · rw [hg] at hC; cases hC; exact hs
  · exact r c m h C hC
end AL
set_option Elab.async false
set_option linter.all false
set_option autoImplicit false
set_option maxRecDepth 100000
set_option maxHeartbeats 4000000
namespace AL
open PySem PySem.Spec PyProof.Rows L2
def oSlcC (x : Pv) (lo hi : Option Int) (cs : Cells) : Res Pv := match asL cs x with
  | some xs => .ok (.ref cs.length) (cs ++ [.lst (cut xs lo hi)])
  | none => .bad
def fSlcC (f : FE) (lo hi : FO) : FE := fun sl cs => (f sl cs).bind fun x cs1 => (lo sl cs1).bind fun l cs2 => (hi sl cs2).bind fun h cs3 => oSlcC x l h cs3
section
variable {X : Cx} {W : WE} {f : FE} {lo hi : FO} {a : Expr} {l h : Option Expr} {pos p2 : Pos}
@[simp] theorem ap_slcC {sl : Sl} {cs : Cells} : fSlcC f lo hi sl cs = (f sl cs).bind fun x cs1 => (lo sl cs1).bind fun l cs2 => (hi sl cs2).bind fun h cs3 => oSlcC x l h cs3 := rfl
end
end AL
set_option Elab.async false
set_option linter.all false
set_option autoImplicit false
set_option maxRecDepth 100000
set_option maxHeartbeats 4000000
namespace AL
open PySem PySem.Spec PyProof.Rows L2
/-- the text that a value is -/
def txtOf (v : Value) : Str := match v with
  | .str x _ => x
  | _ => Str.empty
theorem txt_is {P : Program} {w : World} {k : Str} {v : Value} (h : (strKind P w).is k v = true) : ∃ t, v = .str k t := Value.isStrOf_shape h
theorem is_txt {P : Program} {w : World} (k : Str) (t : Tok) : (strKind P w).is k (.str k t) = true := by
  show (k == k) = true
  exact beq_self_eq_true k
/-- a set of texts: those of S, n of them -/
def TxSet (P : Program) (w : World) (h : Heap) (a : Addr) (S : Str → Prop) (n : Nat) : Prop :=
  ∃ o es ep t, h.get? a = some o ∧ o.ExactSet ∧ o.data = .set es ep t ∧ ElemsOf (strKind P w) es.toList ∧ (es.toList.map fun e => txtOf e.2).Nodup ∧ (∀ k, S k ↔ k ∈ es.toList.map fun e => txtOf e.2) ∧
    es.size < scanBound ∧ t.fits es.size = true ∧ es.size = n ∧ Ris t.place.toList ∧ (w.params.followText "set-order" = true ∨ t.led = true)
theorem TxSet.at {P : Program} {w : World} {h h' : Heap} {a : Addr} {S : Str → Prop} {n : Nat} (R : TxSet P w h a S n) (k : ∀ o, h.get? a = some o → h'.get? a = some o) : TxSet P w h' a S n := by
  obtain ⟨o, es, ep, t, ho, r⟩ := R
  exact ⟨o, es, ep, t, k o ho, r⟩
end AL
set_option Elab.async false
set_option linter.all false
set_option autoImplicit false
set_option maxRecDepth 100000
set_option maxHeartbeats 4000000
namespace AL
open PySem PySem.Spec PyProof.Rows L2 PySem.W
/-- each of them once, as first met -/
def ones : List Str → List Str
  | [] => []
  | x :: xs => x :: (ones xs).filter (fun y => y ≠ x)
noncomputable def srtS (xs : List Str) : List Str := (ones xs).mergeSort (dataLe false PyData.str)
end AL
set_option Elab.async false
set_option linter.all false
set_option autoImplicit false
set_option maxRecDepth 100000
set_option maxHeartbeats 4000000
namespace AL
open PySem PySem.Spec PyProof.Rows L2
theorem strs_rep {K : PySem.W.Frag} {mg : Str → Option Value} {U : Hp} {μ : List Addr} : ∀ {ps : List Pv} {ws : List V} {ks : List Str}, RepVs K mg U μ ps ws → strsOf ps = some ks → ws = ks.map V.str
  | _, _, ks, .nil, h => by
    cases h; rfl
  | _, _, ks, .cons (p := p) h t, e => by
    cases p with
    | str x =>
      cases e1 : strsOf _ with
      | none => rw [strsOf, e1] at e; cases e
      | some ks' =>
        rw [strsOf, e1] at e
        cases e
        cases h
        rw [strs_rep t e1]; rfl
    | _ => simp [strsOf] at e
theorem rep_strs {K : PySem.W.Frag} {mg : Str → Option Value} {U : Hp} {μ : List Addr} : ∀ ks : List Str, RepVs K mg U μ (ks.map Pv.str) (ks.map V.str)
  | [] => .nil
  | k :: ks => .cons (.str k) (rep_strs ks)
noncomputable def fSortSet (f : FE) : FE := fun sl cs => (f sl cs).bind fun x cs1 => match asL cs1 x with
  | some xs => match strsOf xs with
    | some ks => guard_ (decide (ks.length + 1 < scanBound)) (.ok (.lst ((srtS ks).map Pv.str)) cs1)
    | none => .bad
  | none => .bad
@[simp] theorem ap_sortSet {f : FE} {sl : Sl} {cs : Cells} : fSortSet f sl cs = (f sl cs).bind fun x cs1 => match asL cs1 x with
  | some xs => match strsOf xs with
    | some ks => guard_ (decide (ks.length + 1 < scanBound)) (.ok (.lst ((srtS ks).map Pv.str)) cs1)
    | none => .bad
  | none => .bad := rfl
end AL
set_option Elab.async false
set_option linter.all false
set_option autoImplicit false
set_option maxRecDepth 100000
set_option maxHeartbeats 4000000
namespace AL
open PySem PySem.Spec PyProof.Rows L2
open PySem.SeqAt MeetsSeq MeetsSeq2 MeetsSeq3 SeqRoads2
open AutoSeq1 (wpAny_loadPart')
end AL
set_option Elab.async false
set_option linter.all false
set_option autoImplicit false
set_option maxRecDepth 100000
set_option maxHeartbeats 4000000
namespace AL
open PySem PySem.Spec PyProof.Rows L2
mutual
/-- values without cells; instances of these classes only, by their fields -/
inductive PlV (T : List (Str × List Str)) : Pv → Prop
  | non : PlV T .non
  | bl (b : Bool) : PlV T (.bl b)
  | int (i : Int) : PlV T (.int i)
  | str (x : Str) : PlV T (.str x)
  | tup {ps : List Pv} : PlVs T ps → PlV T (.tup ps)
  | lst {ps : List Pv} : PlVs T ps → PlV T (.lst ps)
  | obj {c : Str} {fs : List (Str × Pv)} : T.lookup c = some (fs.map (·.1)) → PlVs T (fs.map (·.2)) → PlV T (.obj c fs)
inductive PlVs (T : List (Str × List Str)) : List Pv → Prop
  | nil : PlVs T []
  | cons {p : Pv} {ps : List Pv} : PlV T p → PlVs T ps → PlVs T (p :: ps)
end
/-- classes of the same fields are the same -/
def ClsD (mg : Str → Option Value) (T : List (Str × List Str)) : Prop := ∀ c d ns C, T.lookup c = some ns → T.lookup d = some ns → mg c = some (.ref C) → mg d = some (.ref C) → c = d
section
variable {X : Cx} {pins : List (Addr × Obj)} {σ : L2.St} {H : Hp} {s : Shared}
theorem lt_no (I : Inv X pins σ H s) {a : Addr} {xs ys : List V} (h1 : SqL X.K H a xs) (h2 : SqT X.K H a ys) : False := by
  obtain ⟨its, _, ⟨o, n, e, hc, _⟩, _⟩ := I.list h1
  obtain ⟨its2, _, ⟨o2, e2, hc2, _⟩, _⟩ := I.tuple h2
  rw [e] at e2
  cases e2
  rw [hc] at hc2
  injection hc2 with z
  exact absurd z (by decide)
theorem li_no (I : Inv X pins σ H s) {a C dx : Addr} {xs : List V} {ws : List (Str × V)} (h1 : SqL X.K H a xs) (h2 : H a = some (.ins C dx ws)) : False := by
  obtain ⟨its, _, ⟨o, n, e, hc, _⟩, _⟩ := I.list h1
  obtain ⟨mA, ⟨ob, _, _⟩, _⟩ := ins_get I.hok h2
  have ob : s.heap.get? a = some (PySem.W.instObj C dx) := ob
  rw [ob] at e
  cases e
  cases hc
theorem pairs_ext {α β : Type} : ∀ {a b : List (α × β)}, a.map (·.1) = b.map (·.1) → a.map (·.2) = b.map (·.2) → a = b
  | [], [], _, _ => rfl
  | [], _ :: _, h, _ => by simp at h
  | _ :: _, [], h, _ => by simp at h
  | (x, y) :: a, (z, w) :: b, h1, h2 => by
    simp only [List.map_cons, List.cons.injEq] at h1 h2
    rw [h1.1, h2.1, pairs_ext h1.2 h2.2]
mutual
theorem pl_inj {T : List (Str × List Str)} (hT : ClsD X.mg T) (I : Inv X pins σ H s) {U : Hp} {μ : List Addr} (hU : Ex U H) : ∀ {p q : Pv} {v : V}, PlV T p → PlV T q → RepV X.K X.mg U μ p v → RepV X.K X.mg U μ q v → p = q
  | _, q, _, .non, h2, r, r2 => by cases r; cases r2; rfl
  | _, q, _, .bl b, h2, r, r2 => by cases r; cases r2; rfl
  | _, q, _, .int i, h2, r, r2 => by cases r; cases r2; rfl
  | _, q, _, .str x, h2, r, r2 => by cases r; cases r2; rfl
  | _, q, _, .tup h1, h2, r, r2 => by
    cases r with
    | tup u t =>
      cases h2 with
      | non => cases r2
      | bl b => cases r2
      | int i => cases r2
      | str x => cases r2
      | tup h2 =>
        cases r2 with
        | tup u2 t2 =>
          rw [u] at u2
          cases u2
          rw [pl_injs hT I hU h1 h2 t t2]
      | lst h2 =>
        cases r2 with
        | lst u2 t2 => exact (lt_no I (hU.l u2) (.inl (.inl (hU _ _ u)))).elim
      | obj g h2 =>
        cases r2 with
        | obj g2 u2 n2 t2 => rw [u] at u2; cases u2
  | _, q, _, .lst h1, h2, r, r2 => by
    cases r with
    | lst u t =>
      cases h2 with
      | non => cases r2
      | bl b => cases r2
      | int i => cases r2
      | str x => cases r2
      | tup h2 =>
        cases r2 with
        | tup u2 t2 => exact (lt_no I (hU.l u) (.inl (.inl (hU _ _ u2)))).elim
      | lst h2 =>
        cases r2 with
        | lst u2 t2 =>
          have e := I.list_inj (hU.l u) (hU.l u2)
          subst e
          rw [pl_injs hT I hU h1 h2 t t2]
      | obj g h2 =>
        cases r2 with
        | obj g2 u2 n2 t2 => exact (li_no I (hU.l u) (hU _ _ u2)).elim
  | _, q, _, .obj g h1, h2, r, r2 => by
    cases r with
    | obj m u n t =>
      cases h2 with
      | non => cases r2
      | bl b => cases r2
      | int i => cases r2
      | str x => cases r2
      | tup h2 =>
        cases r2 with
        | tup u2 t2 => rw [u] at u2; cases u2
      | lst h2 =>
        cases r2 with
        | lst u2 t2 => exact (li_no I (hU.l u2) (hU _ _ u)).elim
      | obj g2 h2 =>
        cases r2 with
        | obj m2 u2 n2 t2 =>
          rw [u] at u2
          cases u2
          have e1 := pl_injs hT I hU h1 h2 t t2
          have e2 := n.trans n2.symm
          have e3 := pairs_ext e2 e1
          subst e3
          rw [hT _ _ _ _ g g2 m m2]
theorem pl_injs {T : List (Str × List Str)} (hT : ClsD X.mg T) (I : Inv X pins σ H s) {U : Hp} {μ : List Addr} (hU : Ex U H) : ∀ {p q : List Pv} {v : List V}, PlVs T p → PlVs T q → RepVs X.K X.mg U μ p v → RepVs X.K X.mg U μ q v → p = q
  | _, q, _, .nil, h2, r, r2 => by cases r; cases r2; rfl
  | _, q, _, .cons h1 t1, h2, r, r2 => by
    cases r with
    | cons a b =>
      cases r2 with
      | cons c d =>
        cases h2 with
        | cons h2 t2 => rw [pl_inj hT I hU h1 h2 a c, pl_injs hT I hU t1 t2 b d]
end
end
mutual
/-- what == answers, item by item; the own == of instances within; n levels deep -/
inductive EqR (T : List (Str × List Str)) (E : EqC) (cs : Cells) : Nat → Pv → Pv → Bool → Prop
  | non {n : Nat} : EqR T E cs n .non .non true
  | bl {n : Nat} (b c : Bool) : EqR T E cs n (.bl b) (.bl c) (b == c)
  | int {n : Nat} (i j : Int) : EqR T E cs n (.int i) (.int j) (i == j)
  | str {n : Nat} (x y : Str) : EqR T E cs n (.str x) (.str y) (x == y)
  | tup {n : Nat} {xs ys : List Pv} {d : Bool} : EqRL T E cs n xs ys d → EqR T E cs (n + 1) (.tup xs) (.tup ys) d
  | lst {n : Nat} {xs ys : List Pv} {d : Bool} : EqRL T E cs n xs ys d → EqR T E cs (n + 1) (.lst xs) (.lst ys) d
  | own {n : Nat} {p q : Pv} {c e : Str} {fs gs : List (Str × Pv)} {m : FN} {d : Bool} : objOf cs p = some (c, fs) → objOf cs q = some (e, gs) → E.own.contains e = true → E.tab.lookup c = some m → m [p, q] cs = .ok (.bl d) cs → (d = false → p ≠ q) → EqR T E cs n p q d
inductive EqRL (T : List (Str × List Str)) (E : EqC) (cs : Cells) : Nat → List Pv → List Pv → Bool → Prop
  | nil {n : Nat} : EqRL T E cs n [] [] true
  | yes {n : Nat} {p q : Pv} {ps qs : List Pv} {d : Bool} : PlV T p → PlV T q → EqR T E cs n p q true → EqRL T E cs n ps qs d → EqRL T E cs n (p :: ps) (q :: qs) d
  | no {n : Nat} {p q : Pv} {ps qs : List Pv} : PlV T p → PlV T q → EqR T E cs n p q false → ps.length = qs.length → EqRL T E cs n (p :: ps) (q :: qs) false
end
theorem EqRL.len {T : List (Str × List Str)} {E : EqC} {cs : Cells} {n : Nat} {d : Bool} : ∀ {xs ys : List Pv}, EqRL T E cs n xs ys d → xs.length = ys.length
  | _, _, .nil => rfl
  | _, _, .yes _ _ _ t => by rw [List.length_cons, List.length_cons, t.len]
  | _, _, .no _ _ _ h => by rw [List.length_cons, List.length_cons, h]
section
variable {X : Cx}
/-- == of two items, by its answer -/
def ItemR (X : Cx) (cs : Cells) (m : Nat) (p q : Pv) (d : Bool) : Prop := ∀ (A : Around) (pins : List (Addr × Obj)) (s : Shared) (σ : L2.St) (U H : Hp) (μ : List Addr) (x y : V) (u v : Value), Sub X m A → Inv X pins σ H s → RelV x u → RelV y v → Rel0 X.K X.mg cs μ U H → RepV X.K X.mg U μ p x → RepV X.K X.mg U μ q y →
  wpAny (model X.prog X.w) A (eqBool u v) (fun r s' => r = d ∧ Kept X cs pins σ U H μ s') X.xe s
def PairR (X : Cx) (cs : Cells) (m : Nat) (neg : Bool) (p q : Pv) (d : Bool) : Prop := ∀ (A : Around) (pins : List (Addr × Obj)) (s : Shared) (σ : L2.St) (U H : Hp) (μ : List Addr) (x y : V) (u v : Value), Sub X m A → Inv X pins σ H s → RelV x u → RelV y v → Rel0 X.K X.mg cs μ U H → RepV X.K X.mg U μ p x → RepV X.K X.mg U μ q y →
  (∃ a b, u = .ref a ∧ v = .ref b) ∧ wpAny (model X.prog X.w) A (richCompare (bif neg then .NotEq else .Eq) u v) (fun r s' => r = .bool (d ^^ neg) ∧ Kept X cs pins σ U H μ s') X.xe s
theorem relV_ref {x : V} {a : Addr} (h : RelV x (.ref a)) : x = .ref a := by
  cases x <;> first | (cases h; rfl) | (obtain ⟨t, e⟩ := h; cases e) | cases h
theorem PairR.item {T : List (Str × List Str)} (hT : ClsD X.mg T) {cs : Cells} {m : Nat} {p q : Pv} {d : Bool} (hp : PlV T p) (hq : PlV T q) (hd : p = q → d = true) (h : PairR X cs m false p q d) : ItemR X cs m p q d := by
  intro A pins s σ U H μ x y u v sb I rx ry r0 rp rq
  obtain ⟨⟨a, b, rfl, rfl⟩, hw⟩ := h A pins s σ U H μ x y u v sb I rx ry r0 rp rq
  by_cases hab : a = b
  · subst hab
    have hxy : x = y := (relV_ref rx).trans (relV_ref ry).symm
    subst hxy
    have e := pl_inj hT I r0.vh hp hq rp rq
    rw [hd e]
    exact SeqAt.EqAt.same (A := A) (s := s) (.ref a) X.prog X.w X.xe _ ⟨rfl, U, H, μ, I, Gr.refl, r0⟩
  · refine GQ.eqBool_refG hab (wpAny_mono hw (fun r s' z => ⟨d, ?_, rfl, z.2⟩) fun _ _ x => x)
    rw [z.1]
    cases d <;> rfl
end
end AL
set_option Elab.async false
set_option linter.all false
set_option autoImplicit false
set_option maxRecDepth 100000
set_option maxHeartbeats 4000000
namespace AL
open PySem PySem.Spec PyProof.Rows L2
section
variable {X : Cx}
theorem ItemR.mono {cs : Cells} {m m' : Nat} {p q : Pv} {d : Bool} (h : ItemR X cs m p q d) (hm : m ≤ m') : ItemR X cs m' p q d := fun A pins s σ U H μ x y u v sb => h A pins s σ U H μ x y u v (sb.mono hm)
end
end AL
set_option Elab.async false
set_option linter.all false
set_option autoImplicit false
set_option maxRecDepth 100000
set_option maxHeartbeats 4000000
namespace AL
open PySem PySem.Spec PyProof.Rows L2
end AL
set_option Elab.async false
set_option linter.all false
set_option autoImplicit false
set_option maxRecDepth 100000
set_option maxHeartbeats 4000000
namespace AL
open PySem PySem.Spec PyProof.Rows L2
end AL
set_option Elab.async false
set_option linter.all false
set_option autoImplicit false
set_option maxRecDepth 100000
set_option maxHeartbeats 4000000
namespace AL
open PySem PySem.Spec PyProof.Rows L2
def getIx (o i : Pv) (cs : Cells) : Option Pv := match o, i with
  | .ref k, .int j => match cs[k]? with
    | some (.lst xs) => if 0 ≤ j then xs[j.toNat]? else none
    | _ => none
  | _, _ => none
def sIxAug (o i : FE) (q : F2) (f : FE) : FS := fun sl cs => (o sl cs).go sl fun ov cs1 => (i sl cs1).go sl fun iv cs2 => match getIx ov iv cs2 with
  | some old => (f sl cs2).go sl fun y cs3 => (q old y cs3).go sl fun z cs4 => match putIx ov iv z cs4 with
    | some cs5 => .nx sl cs5
    | none => .bad
  | none => .bad
@[simp] theorem ap_ixAug {o i : FE} {q : F2} {f : FE} {sl : Sl} {cs : Cells} : sIxAug o i q f sl cs = (o sl cs).go sl fun ov cs1 => (i sl cs1).go sl fun iv cs2 => match getIx ov iv cs2 with
  | some old => (f sl cs2).go sl fun y cs3 => (q old y cs3).go sl fun z cs4 => match putIx ov iv z cs4 with
    | some cs5 => .nx sl cs5
    | none => .bad
  | none => .bad := rfl
end AL
set_option Elab.async false
set_option linter.all false
set_option autoImplicit false
set_option maxRecDepth 100000
set_option maxHeartbeats 4000000
namespace AL
open PySem PySem.Spec PyProof.Rows L2
def oFdivB : F2 := fun x y cs => match x, y with
  | .int i, .int j => guard_ (decide (j ≠ 0)) (.ok (.int (i.fdiv j)) cs)
  | _, _ => .bad
@[simp] theorem v_fdivB (i j : Int) (cs : Cells) : oFdivB (.int i) (.int j) cs = guard_ (decide (j ≠ 0)) (.ok (.int (i.fdiv j)) cs) := rfl
end AL
set_option Elab.async false
set_option linter.all false
set_option autoImplicit false
set_option maxRecDepth 100000
set_option maxHeartbeats 4000000
namespace AL
open PySem PySem.Spec PyProof.Rows L2
open Classical in
noncomputable def srtI (ks : List Int) : List Int := if h : ∃ L : List Int, L.Pairwise (· < ·) ∧ ∀ k, k ∈ L ↔ k ∈ ks then h.choose else []
noncomputable def fSortSetI (f : FE) : FE := fun sl cs => (f sl cs).bind fun x cs1 => match asL cs1 x with
  | some xs => match intsOf xs with
    | some ks => guard_ (decide (ks.length < 60)) (.ok (.lst ((srtI ks).map Pv.int)) cs1)
    | none => .bad
  | none => .bad
@[simp] theorem ap_sortSetI {f : FE} {sl : Sl} {cs : Cells} : fSortSetI f sl cs = (f sl cs).bind fun x cs1 => match asL cs1 x with
  | some xs => match intsOf xs with
    | some ks => guard_ (decide (ks.length < 60)) (.ok (.lst ((srtI ks).map Pv.int)) cs1)
    | none => .bad
  | none => .bad := rfl
end AL
set_option Elab.async false
set_option linter.all false
set_option autoImplicit false
set_option maxRecDepth 100000
set_option maxHeartbeats 4000000
namespace AL
open PySem PySem.Spec PyProof.Rows L2
end AL
set_option Elab.async false
set_option linter.all false
set_option autoImplicit false
set_option maxRecDepth 100000
set_option maxHeartbeats 4000000
namespace AL
open PySem PySem.Spec PyProof.Rows L2
abbrev FW := Pv → Sl → Cells → Option (Sl × Cells)
abbrev FWs := List Pv → Sl → Cells → Option (Sl × Cells)
def wN (i : Nat) : FW := fun v sl cs => some (sl.set i (some v), cs)
def wsNil : FWs := fun vs sl cs => match vs with
  | [] => some (sl, cs)
  | _ => none
def wsCons (g : FW) (r : FWs) : FWs := fun vs sl cs => match vs with
  | v :: vs => (g v sl cs).bind fun p => r vs p.1 p.2
  | [] => none
def wT (n : Nat) (r : FWs) : FW := fun v sl cs => match asT v with
  | some xs => if xs.length = n then r xs sl cs else none
  | none => none
/-- target = e, a target that may write attributes -/
def sAsgW (g : FW) (f : FE) : FS := fun sl cs => (f sl cs).go sl fun v cs1 => match g v sl cs1 with
  | some r => .nx r.1 r.2
  | none => .bad
@[simp] theorem ap_sAsgW (g : FW) (f : FE) (sl : Sl) (cs : Cells) : sAsgW g f sl cs = (f sl cs).go sl fun v cs1 => match g v sl cs1 with
  | some r => .nx r.1 r.2
  | none => .bad := rfl
@[simp] theorem ap_wN (i : Nat) (v : Pv) (sl : Sl) (cs : Cells) : wN i v sl cs = some (sl.set i (some v), cs) := rfl
@[simp] theorem ap_wsNil (sl : Sl) (cs : Cells) : wsNil [] sl cs = some (sl, cs) := rfl
@[simp] theorem ap_wsCons (g : FW) (r : FWs) (v : Pv) (vs : List Pv) (sl : Sl) (cs : Cells) : wsCons g r (v :: vs) sl cs = (g v sl cs).bind fun p => r vs p.1 p.2 := rfl
@[simp] theorem ap_wT (n : Nat) (r : FWs) (xs : List Pv) (sl : Sl) (cs : Cells) : wT n r (.tup xs) sl cs = if xs.length = n then r xs sl cs else none := rfl
end AL
set_option Elab.async false
set_option linter.all false
set_option autoImplicit false
set_option maxRecDepth 100000
set_option maxHeartbeats 4000000
namespace AL
open PySem PySem.Spec PyProof.Rows L2
end AL
set_option Elab.async false
set_option linter.all false
set_option autoImplicit false
set_option maxRecDepth 100000
set_option maxHeartbeats 4000000
namespace AL
open PySem PySem.Spec PyProof.Rows L2
def fBack3 (f : FE) (u t : FO) : FE := fun sl cs => (f sl cs).bind fun x cs1 => (u sl cs1).bind fun o1 cs2 => (t sl cs2).bind fun o cs3 => match asT x with
  | some [_, y1, y2] => if o1 = some 0 ∧ o = some (-1) then .ok (.tup [y2, y1]) cs3 else .bad
  | _ => .bad
@[simp] theorem ap_back3 {f : FE} {u t : FO} {sl : Sl} {cs : Cells} : fBack3 f u t sl cs = (f sl cs).bind fun x cs1 => (u sl cs1).bind fun o1 cs2 => (t sl cs2).bind fun o cs3 => match asT x with
  | some [_, y1, y2] => if o1 = some 0 ∧ o = some (-1) then .ok (.tup [y2, y1]) cs3 else .bad
  | _ => .bad := rfl
end AL
set_option Elab.async false
set_option linter.all false
set_option autoImplicit false
set_option maxRecDepth 100000
set_option maxHeartbeats 4000000
namespace AL
open PySem PySem.Spec PyProof.Rows L2
def mMaxL : FN := fun vs cs => match vs with
  | [x] => match asL cs x with
    | some xs => match intsOf xs with
      | some (n :: ns) => .ok (.int (ns.foldl max n)) cs
      | _ => .bad
    | none => .bad
  | _ => .bad
theorem foldl_max_mem : ∀ (ns : List Int) (n : Int), (ns.foldl max n = n ∨ ns.foldl max n ∈ ns) ∧ n ≤ ns.foldl max n ∧ ∀ y ∈ ns, y ≤ ns.foldl max n
  | [], n => ⟨.inl rfl, Int.le_refl _, fun y hy => by simp at hy⟩
  | k :: ns, n => by
    obtain ⟨h1, h2, h3⟩ := foldl_max_mem ns (max n k)
    rw [List.foldl_cons]
    refine ⟨?_, by omega, fun y hy => ?_⟩
    · rcases h1 with h1 | h1
      · rw [h1]
        rcases Int.le_total n k with q | q
        · right; rw [Int.max_eq_right q]; exact List.mem_cons_self
        · left; exact Int.max_eq_left q
      · exact .inr (List.mem_cons_of_mem _ h1)
    · rcases List.mem_cons.mp hy with rfl | hy
      · omega
      · exact h3 y hy
theorem ok_maxL {K : PySem.W.Frag} {mg : Str → Option Value} : OkC K mg mMaxL (rMax K) := by
  intro E ps cs vs U H μ Q r hx h
  unfold mMaxL at h
  split at h
  case h_2 => exact h.elim
  rename_i x
  split at h
  case h_2 => exact h.elim
  rename_i xs ex
  split at h
  case h_2 => exact h.elim
  rename_i n ns en
  cases hx with
  | cons h1 h2 =>
    cases h2
    obtain ⟨a, ws, rfl, s, rq⟩ := asL_ok r h1 ex
    rw [intsOf_eq en] at rq
    rw [rq.ints] at s
    obtain ⟨m1, m2, m3⟩ := foldl_max_mem ns n
    refine ⟨a, n :: ns, rfl, s, by simp, fun m hm hb => ?_⟩
    have e : m = ns.foldl max n := by
      have a1 : ns.foldl max n ≤ m := by
        rcases m1 with m1 | m1
        · rw [m1]; exact hb n List.mem_cons_self
        · exact hb _ (List.mem_cons_of_mem _ m1)
      rcases List.mem_cons.mp hm with q | q
      · rw [q] at a1 ⊢; omega
      · have := m3 m q; omega
    subst e
    exact out_val r (.int _) h
@[simp] theorem ap_maxL {x : Pv} {cs : Cells} : mMaxL [x] cs = match asL cs x with
  | some xs => match intsOf xs with
    | some (n :: ns) => .ok (.int (ns.foldl max n)) cs
    | _ => .bad
  | none => .bad := rfl
end AL
set_option Elab.async false
set_option linter.all false
set_option autoImplicit false
set_option maxRecDepth 100000
set_option maxHeartbeats 4000000
namespace AL
open PySem PySem.Spec PyProof.Rows L2
end AL
set_option Elab.async false
set_option linter.all false
set_option autoImplicit false
set_option maxRecDepth 100000
set_option maxHeartbeats 4000000
namespace AL
open PySem PySem.Spec PyProof.Rows L2
/-- what a set's search asks of the items of its tuples -/
def PlainK {P : Program} {w : World} {α : Type} [DecidableEq α] (κ : KeyKind P w α) : Prop := ∀ k v, κ.is k v = true → (∀ n, ofAClassStatement n v = pure false) ∧ ∀ n, ∃ b, hashByValue n v = pure b
theorem plain_str {P : Program} {w : World} : PlainK (strKind P w) := fun k v h => by
  obtain ⟨t, rfl⟩ := Value.isStrOf_shape h
  exact ⟨fun n => by cases n <;> rfl, fun n => ⟨false, by cases n <;> rfl⟩⟩
section
variable {P : Program} {w : World} {α : Type} [DecidableEq α] {κ : KeyKind P w α} {A : Around} {E : Value → Shared → Prop} {s : Shared}
theorem plain_all (hκ : PlainK κ) {k : List α} {vs : List Value} (h : ItemsAre κ k vs) : ∀ v ∈ vs, (∀ n, ofAClassStatement n v = pure false) ∧ ∀ n, ∃ b, hashByValue n v = pure b := by
  induction h with
  | nil => intro v hv; cases hv
  | cons h1 _ ih =>
    intro v hv
    rcases List.mem_cons.mp hv with rfl | hv
    · exact hκ _ _ h1
    · exact ih v hv
/-- the two loops over a tuple's items -/
theorem class_no (hκ : PlainK κ) {k : List α} {b : Addr} {Q : Bool → Shared → Prop} (hk : IsTupleKey κ s.heap k b) (h : Q false s) : wpAny (model P w) A (ofAClassStatement 8 (.ref b)) Q E s := by
  have hT := hk.typeIs
  obtain ⟨o, items, n, ho, _, hd, hi⟩ := hk
  unfold ofAClassStatement
  refine wpAny_bind (wpAny_typeOf hT ?_)
  dsimp only
  have e : (("tuple" : String) == "tuple") = true := by decide
  simp only [e, if_true, Bool.not_true, Bool.false_eq_true, if_false]
  try refine wpAny_bind (wpAny_pure ?_)
  try simp only [Bool.not_true, Bool.false_eq_true, if_false]
  show wpAny _ _ (seqItems? (.ref b) >>= _) _ _ s
  refine wpAny_bind (wpAny_seqItems ho hd ?_)
  dsimp only
  refine wpAny_bind ?_
  show wpAny _ _ (forIn items _ _) _ _ s
  rw [← Array.forIn_toList]
  refine wpAny_forIn_list _ (fun rest r s' => r.1 = none ∧ s' = s ∧ ∀ v ∈ rest, (∀ n, ofAClassStatement n v = pure false) ∧ ∀ n, ∃ b, hashByValue n v = pure b) _ ?_ ?_ _ _ ⟨rfl, rfl, plain_all hκ hi⟩
  · rintro v rest r s' ⟨hr, rfl, hall⟩
    rw [(hall v List.mem_cons_self).1]
    refine wpAny_bind (wpAny_pure ?_)
    simp only [Bool.false_eq_true, if_false]
    exact wpAny_pure ⟨rfl, rfl, fun u hu => hall u (List.mem_cons_of_mem _ hu)⟩
  · rintro ⟨r1, r2⟩ s' ⟨hr, rfl, _⟩
    simp only at hr
    subst hr
    exact wpAny_pure h
theorem hash_any (hκ : PlainK κ) {k : List α} {b : Addr} {Q : Bool → Shared → Prop} (hk : IsTupleKey κ s.heap k b) (h : ∀ b, Q b s) : wpAny (model P w) A (hashByValue 8 (.ref b)) Q E s := by
  have hT := hk.typeIs
  obtain ⟨o, items, n, ho, _, hd, hi⟩ := hk
  unfold hashByValue
  refine wpAny_bind (wpAny_specialOf hT F.slot_tuple_hash.lookup ?_)
  show wpAny _ _ (seqItems? (.ref b) >>= _) _ _ s
  refine wpAny_bind (wpAny_seqItems ho hd ?_)
  refine wpAny_bind ?_
  show wpAny _ _ (forIn items _ _) _ _ s
  rw [← Array.forIn_toList]
  refine wpAny_forIn_list _ (fun rest r s' => r.1 = none ∧ s' = s ∧ ∀ v ∈ rest, (∀ n, ofAClassStatement n v = pure false) ∧ ∀ n, ∃ b, hashByValue n v = pure b) _ ?_ ?_ _ _ ⟨rfl, rfl, plain_all hκ hi⟩
  · rintro v rest r s' ⟨hr, rfl, hall⟩
    obtain ⟨c, hc⟩ := (hall v List.mem_cons_self).2 7
    rw [hc]
    refine wpAny_bind (wpAny_pure ?_)
    cases c with
    | true =>
      simp only [Bool.not_true, Bool.false_eq_true, if_false]
      exact wpAny_pure ⟨rfl, rfl, fun u hu => hall u (List.mem_cons_of_mem _ hu)⟩
    | false =>
      simp only [Bool.not_false, if_true]
      exact wpAny_pure (wpAny_pure (h false))
  · rintro ⟨r1, r2⟩ s' ⟨hr, rfl, _⟩
    simp only at hr
    subst hr
    exact wpAny_pure (h true)
/-- no search among such tuples can be seen -/
theorem seen_no (hκ : PlainK κ) {k : List α} {b : Addr} {Q : Bool → Shared → Prop} (hk : IsTupleKey κ s.heap k b) {ys : List Value} (hy : ∀ y ∈ ys, ∃ k' c, y = Value.ref c ∧ IsTupleKey κ s.heap k' c) (h : Q false s) :
    wpAny (model P w) A (searchCouldBeSeen (.ref b) ys) Q E s := by
  unfold searchCouldBeSeen
  refine wpAny_bind ?_
  refine wpAny_forIn_list _ (fun rest r s' => r.1 = none ∧ s' = s ∧ ∀ y ∈ rest, ∃ k' c, y = Value.ref c ∧ IsTupleKey κ s.heap k' c) _ ?_ ?_ _ _ ⟨rfl, rfl, hy⟩
  · rintro v rest r s' ⟨hr, rfl, hall⟩
    obtain ⟨k', c, rfl, hc⟩ := hall v List.mem_cons_self
    have more : ∀ y ∈ rest, ∃ k' c, y = Value.ref c ∧ IsTupleKey κ s'.heap k' c := fun u hu => hall u (List.mem_cons_of_mem _ hu)
    dsimp only
    by_cases hv : (b == c || (carriedByValue (.ref b) && carriedByValue (.ref c))) = true
    · exact wp_if_pos hv (wpAny_pure ⟨rfl, rfl, more⟩)
    · refine wp_if_neg hv (wpAny_bind (wpAny_eqIsQuiet_tuple hk ?_))
      simp only [Bool.not_true, Bool.false_eq_true, if_false]
      refine wpAny_bind (wpAny_eqIsQuiet_tuple hc ?_)
      simp only [Bool.not_true, Bool.false_eq_true, if_false]
      refine wpAny_bind (class_no hκ hk ?_)
      simp only [Bool.false_eq_true, if_false]
      refine wpAny_bind (class_no hκ hc ?_)
      simp only [Bool.false_eq_true, if_false]
      exact wpAny_pure ⟨rfl, rfl, more⟩
  · rintro ⟨r1, r2⟩ s' ⟨hr, rfl, _⟩
    simp only at hr
    subst hr
    exact wpAny_pure h
end
section
variable {P : Program} {w : World} {α : Type} [DecidableEq α] {κ : KeyKind P w α} {A : Around} {E : Value → Shared → Prop} {s : Shared}
abbrev hk (κ : KeyKind P w α) (k : List α) : Int := tupleKeyHash κ k
structure SetM (κ : KeyKind P w α) (h : Heap) (a : Addr) (L : List (Addr × List α)) (es : Array (Int × Value)) (ep : Nat) (t : SetTable) : Prop where
  ob : ∃ o, h.get? a = some o ∧ o.ExactSet ∧ o.data = .set es ep t
  rows : es.toList = L.map fun p => (hk κ p.2, Value.ref p.1)
  tab : TabOk t (L.map fun p => hk κ p.2)
  nd : (L.map (·.2)).Nodup
  tup : ∀ p ∈ L, IsTupleKey κ h p.2 p.1
  led : w.params.followText "set-order" = true ∨ t.led = true
  m7 : t.mask = 7
  few : L.length ≤ 4
variable {a : Addr} {L : List (Addr × List α)} {es : Array (Int × Value)} {ep : Nat} {t : SetTable}
theorem SetM.size (R : SetM κ s.heap a L es ep t) : es.size = L.length := by
  have h := congrArg List.length R.rows
  rwa [Array.length_toList, List.length_map] at h
theorem SetM.pl (R : SetM κ s.heap a L es ep t) : t.place.size = L.length := by
  have h := R.tab.sz
  rwa [List.length_map] at h
theorem SetM.fits (R : SetM κ s.heap a L es ep t) : t.fits es.size = true := by
  have h1 := R.pl
  have h2 := R.size
  have h3 := R.few
  have h4 := R.m7
  unfold SetTable.fits SetTable.fill
  rw [R.tab.dm, Bool.and_eq_true, beq_iff_eq, decide_eq_true_eq]
  show t.place.size = es.size ∧ t.place.size + 0 ≤ t.mask
  omega
theorem SetM.entry (R : SetM κ s.heap a L es ep t) {i : Nat} {p : Addr × List α} (h : L[i]? = some p) : es[i]? = some (hk κ p.2, Value.ref p.1) := by
  rw [← Array.getElem?_toList, R.rows, List.getElem?_map, h]; rfl
theorem SetM.gw (R : SetM κ s.heap a L es ep t) : ¬ t.gaveWay = true := by
  unfold SetTable.gaveWay
  rw [R.m7]
  decide
theorem no_dummy (m : Nat) : ∀ (n : Nat) (p : SetTable.Probe), p.dummy = none → (nth m p n).dummy = none
  | 0, _, h => h
  | n + 1, p, h => no_dummy m n (adv m p) (by unfold adv; split <;> exact h)
/-- the search from the c-th step on, K the step of the first empty slot -/
theorem search_m (hκ : PlainK κ) (R : SetM κ s.heap a L es ep t) {x : Addr} {k : List α} (hx : IsTupleKey κ s.heap k x) (hu : A.units < cLine) {K : Nat} (hKf : K < 10 * SetTable.turns t.mask)
    (hK : way t.mask (hk κ k) K ∉ t.place.toList) (hKb : ∀ c, c < K → way t.mask (hk κ k) c ∈ t.place.toList) {Q : SetFound → Shared → Prop}
    (hin : k ∈ L.map (·.2) → Q (.there none) s) (hout : k ∉ L.map (·.2) → Q (.free (way t.mask (hk κ k) K) false) s) {p0 : SetTable.Probe} (hp0 : p0 = runAt t.mask (SetTable.bits (hk κ k) % (t.mask + 1)) (SetTable.bits (hk κ k))) :
    ∀ (f c : Nat) (stand : Option SetTable.Probe), stand.getD (t.probeStart (hk κ k)) = nth t.mask p0 c → c ≤ K → K - c < f →
      (∀ (i : Nat) p, L[i]? = some p → p.2 = k → ∃ c', c ≤ c' ∧ c' < K ∧ t.place.toList[i]? = some (way t.mask (hk κ k) c')) →
      wpAny (model P w) A (setSearchFrom a (.ref x) (hk κ k) true f stand) Q E s
  | 0, c, stand, _, _, hf, _ => absurd hf (Nat.not_lt_zero _)
  | f + 1, c, stand, hst, hc, hf, hre => by
    obtain ⟨o, ho, hex, hd⟩ := R.ob
    have wy : ∀ q, (nth t.mask (nth t.mask p0 c) q).j = way t.mask (hk κ k) (c + q) := fun q => by rw [← nth_add, hp0]
    have hat : ∀ (i : Nat) p, L[i]? = some p → (es[i]?.map (·.1)).getD 0 = hk κ p.2 := fun i p hp => by rw [R.entry hp]; rfl
    have spec := go_spec t R.tab.ris R.tab.dm (fun i => (es[i]?.map (·.1)).getD 0) (hk κ k) (10 * SetTable.turns t.mask) (K - c) (nth t.mask p0 c) (no_dummy _ _ _ (by rw [hp0]; rfl)) (by omega)
      (fun q hq => by rw [wy]; exact hKb (c + q) (by omega)) (by rw [wy, show c + (K - c) = K by omega]; exact hK)
    rw [setSearchFrom_succ]
    refine wpAny_bind (wpAny_setState_of ho hd R.fits ?_)
    dsimp only
    refine wp_if_neg R.gw ?_
    try refine wpAny_bind (wpAny_pure ?_)
    rcases spec with ⟨q, i, hq, hi, hh, hno, hpr⟩ | ⟨hno, hpr⟩
    · have hpr2 : t.probe (fun i => (es[i]?.map (·.1)).getD 0) (hk κ k) (stand.getD (t.probeStart (hk κ k))) = some (.candidate (way t.mask (hk κ k) (c + q)) i (nth t.mask p0 (c + (q + 1)))) := by
        rw [hst, ← wy, nth_add]
        exact hpr
      rw [hpr2]
      dsimp only
      rw [wy] at hi
      have hil : i < L.length := by
        have h1 : i < t.place.toList.length := (List.getElem?_eq_some_iff.mp hi).1
        rw [Array.length_toList, R.pl] at h1
        exact h1
      obtain ⟨p, hp⟩ : ∃ p, L[i]? = some p := ⟨_, List.getElem?_eq_getElem hil⟩
      have hmem : p ∈ L := List.mem_of_getElem? hp
      have hsl : t.slot (way t.mask (hk κ k) (c + q)) = .live i := slot_live R.tab.ris hi
      have rest : wpAny (model P w) A (searchRest a (.ref x) (hk κ k) true f es t (way t.mask (hk κ k) (c + q)) i (nth t.mask p0 (c + (q + 1)))) Q E s := by
        unfold searchRest
        rw [R.entry hp]
        dsimp only
        refine wpAny_bind (wpAny_holding (wpAny_eqBool_tuple hu (R.tup p hmem) hx ?_))
        refine wpAny_bind (wpAny_setState_of ho hd R.fits ?_)
        dsimp only
        by_cases hkk : p.2 = k
        · exact wp_if_pos (by simp [hkk]) (wpAny_pure (hin (List.mem_map.mpr ⟨p, hmem, hkk⟩)))
        · refine wp_if_neg (by simp [hkk]) ?_
          try refine wpAny_bind (wpAny_pure ?_)
          rw [sameMem]
          dsimp only
          simp only [if_true, hsl, R.entry hp]
          refine wpAny_bind (wpAny_isSame_ref_self (wpAny_bind (wpAny_pure ?_)))
          simp only [if_true]
          refine wp_if_neg (by simp [hkk]) ?_
          refine search_m hκ R hx hu hKf hK hKb hin hout hp0 f (c + (q + 1)) _ rfl (by omega) (by omega) fun i0 p1 h0 hk0 => ?_
          obtain ⟨c', a1, a2, a3⟩ := hre i0 p1 h0 hk0
          refine ⟨c', ?_, a2, a3⟩
          rcases Nat.lt_trichotomy c' (c + q) with z | z | z
          · exact absurd ((hat i0 p1 h0).trans (congrArg (hk κ) hk0)) (hno (c' - c) i0 (by omega) (by rw [wy, show c + (c' - c) = c' by omega]; exact a3))
          · rw [z] at a3
            have s0 := slot_live R.tab.ris a3
            rw [hsl] at s0
            injection s0 with s0
            rw [← s0, hp] at h0
            exact absurd ((congrArg Prod.snd (Option.some.inj h0)).trans hk0) hkk
          · omega
      by_cases hl : t.led = true
      · refine wp_if_neg (by simp [hl]) ?_
        try refine wpAny_bind (wpAny_pure ?_)
        exact rest
      · refine wp_if_pos (by simp [hl]) ?_
        refine wpAny_bind (seen_no hκ hx (fun y hy => ?_) ?_)
        · obtain ⟨e, he, ee⟩ := List.mem_map.mp hy
          have he1 : e ∈ es ∧ e.1 = hk κ k := by simpa using he
          have he2 : e ∈ es.toList := by simpa using he1.1
          rw [R.rows] at he2
          obtain ⟨p2, hp2, e2⟩ := List.mem_map.mp he2
          exact ⟨p2.2, p2.1, by rw [← ee, ← e2], R.tup p2 hp2⟩
        · refine wp_if_neg (by decide) ?_
          try refine wpAny_bind (wpAny_pure ?_)
          exact rest
    · have hpr2 : t.probe (fun i => (es[i]?.map (·.1)).getD 0) (hk κ k) (stand.getD (t.probeStart (hk κ k))) = some (.empty (way t.mask (hk κ k) K) none) := by
        have e2 : way t.mask (hk κ k) K = (nth t.mask (nth t.mask p0 c) (K - c)).j := by rw [wy, show c + (K - c) = K by omega]
        rw [hst, e2]
        exact hpr
      rw [hpr2]
      dsimp only
      refine wpAny_pure (hout fun hm => ?_)
      obtain ⟨p1, h0, hk0⟩ := List.mem_map.mp hm
      obtain ⟨i0, hi0, e0⟩ := List.getElem_of_mem h0
      have h00 : L[i0]? = some p1 := by rw [List.getElem?_eq_getElem hi0, e0]
      obtain ⟨c', a1, a2, a3⟩ := hre i0 p1 h00 hk0
      exact hno (c' - c) i0 (by omega) (by rw [wy, show c + (c' - c) = c' by omega]; exact a3) ((hat i0 p1 h00).trans (congrArg (hk κ) hk0))
/-- one more, or one that is there -/
theorem add_m (hκ : PlainK κ) (R : SetM κ s.heap a L es ep t) {x : Addr} {k : List α} (hx : IsTupleKey κ s.heap k x) (hu : A.units < cLine) (hfew : L.length + 1 ≤ 4) {Q : Bool → Shared → Prop}
    (hQ : ∀ b h' L' es' ep' t', Heap.SameBut a s.heap h' → SetM κ h' a L' es' ep' t' → (k ∈ L.map (·.2) → L' = L) → (k ∉ L.map (·.2) → L'.Perm ((x, k) :: L)) → Q b { s with heap := h' }) :
    wpAny (model P w) A (setAddHashed a (.ref x) (hk κ k)) Q E s := by
  obtain ⟨o, ho, hex, hd⟩ := R.ob
  have hsl := R.size
  have hm7 := R.m7
  unfold setAddHashed
  refine wpAny_holding ?_
  rw [show (100000 : Nat) = 99999 + 1 from rfl, setAddHashedIn_succ]
  refine wpAny_bind (wpAny_setState_of ho hd R.fits ?_)
  dsimp only
  refine wp_if_neg (by simp [byScan, Value.scannable]) ?_
  try refine wpAny_bind (wpAny_pure ?_)
  obtain ⟨K, hKf, hK, hKb⟩ := R.tab.first (by rw [List.length_map]; have := R.few; omega) (hk κ k)
  have hsearch : ∀ {Q' : SetFound → Shared → Prop}, (k ∈ L.map (·.2) → Q' (.there none) s) → (k ∉ L.map (·.2) → Q' (.free (way t.mask (hk κ k) K) false) s) → wpAny (model P w) A (setSearch a (.ref x) (hk κ k) true) Q' E s := fun {Q'} h1 h2 => by
    unfold setSearch
    have hbig : K < 100000 := by
      have : 10 * SetTable.turns t.mask ≤ 1420 := by
        unfold SetTable.turns
        omega
      omega
    refine search_m hκ R hx hu hKf hK hKb h1 h2 rfl 100000 0 none rfl (Nat.zero_le _) (by omega) fun i p hp hkk => ?_
    have hi : (L.map fun p => hk κ p.2)[i]? = some (hk κ k) := by rw [List.getElem?_map, hp, ← hkk]; rfl
    have hil : i < t.place.toList.length := by
      rw [Array.length_toList, R.pl]
      exact (List.getElem?_eq_some_iff.mp hp).1
    obtain ⟨c, hc, e⟩ := R.tab.before hK hi (List.getElem?_eq_getElem hil)
    exact ⟨c, Nat.zero_le _, hc, by rw [List.getElem?_eq_getElem hil, e]⟩
  refine wpAny_bind (hsearch (fun hm => ?_) fun hm => ?_)
  · dsimp only
    exact wpAny_pure (hQ false s.heap L es ep t (Heap.SameBut.refl a s.heap) R (fun _ => rfl) fun z => absurd hm z)
  · dsimp only
    refine wpAny_bind (wpAny_setState_of ho hd R.fits ?_)
    dsimp only
    obtain ⟨q1, q2, q3, q4, q5, q6, q7, q8, q9⟩ := R.tab.put hK hKb
    generalize hpt : t.put (way t.mask (hk κ k) K) = pt at q1 q3 q4 q5 q6 q7 q8 q9 ⊢
    obtain ⟨t0, p⟩ := pt
    dsimp only at q1 q3 q4 q5 q6 q7 q8 q9 ⊢
    subst q1
    have core : ∀ t1 : SetTable, t1.place = t0.place → t1.dummies = t0.dummies → t1.mask = t0.mask → t1.led = t0.led → wpAny (model P w) A (do
        storeSet a (SetTable.insertAt es (SetTable.below t.place (way t.mask (hk κ k) K)) (hk κ k, Value.ref x)) t1
        if (!false && t1.tooFull) = true then do
            setRelay a (SetTable.grown (es.size + 1))
            pure true
          else pure true) Q E s := fun t1 e1 e2 e3 e4 => by
      have q3 : TabOk t1 _ := ⟨by rw [e1]; exact q3.ris, by rw [e2]; exact q3.dm, by rw [e1]; exact q3.sz, by rw [e3]; exact q3.mok, by rw [e1, e3]; exact q3.bd, by rw [e1, e3]; exact q3.reach⟩
      have q4 : t1.mask = t.mask := e3.trans q4
      have q5 : t1.led = t.led := e4.trans q5
      have q9 : t1.fill = (L.map fun p => hk κ p.2).length + 1 := by
        unfold SetTable.fill at q9 ⊢
        rw [e1, e2]; exact q9
      generalize hpp : SetTable.below t.place (way t.mask (hk κ k) K) = p at q2 q3 ⊢
      have hin : (SetTable.insertAt es p (hk κ k, Value.ref x)).toList = (L.take p ++ (x, k) :: L.drop p).map fun p => (hk κ p.2, Value.ref p.1) := by
        rw [SetTable.toList_insertAt, R.rows, List.map_append, List.map_cons, List.map_take, List.map_drop]
      have pm := put_perm L p (x, k)
      have hlen : (L.take p ++ (x, k) :: L.drop p).length = L.length + 1 := pm.length_eq
      have hhs : (L.take p ++ (x, k) :: L.drop p).map (fun p => hk κ p.2) = (L.map fun p => hk κ p.2).take p ++ hk κ k :: (L.map fun p => hk κ p.2).drop p := by
        rw [List.map_append, List.map_cons, List.map_take, List.map_drop]
      rw [← hhs] at q3
      have nd1 : ((L.take p ++ (x, k) :: L.drop p).map (·.2)).Nodup := by
        refine (pm.map (·.2)).nodup_iff.mpr ?_
        rw [List.map_cons]
        exact List.nodup_cons.mpr ⟨hm, R.nd⟩
      have hes : (SetTable.insertAt es p (hk κ k, Value.ref x)).size = L.length + 1 := by
        have h := congrArg List.length hin
        rwa [Array.length_toList, List.length_map, hlen] at h
      generalize SetTable.insertAt es p (hk κ k, Value.ref x) = es1 at hin hes ⊢
      generalize L.take p ++ (x, k) :: L.drop p = L1 at pm hlen q3 nd1 hin
      refine wpAny_bind (wpAny_storeSet_of ho hd ?_ (by rw [hes, sizeLine_eq]; omega))
      have sb : Heap.SameBut a s.heap (s.heap.update a (Obj.putSet es1 t1)) := Heap.SameBut.update ..
      have ho1 := store_at (es' := es1) (t' := t1) ho hd
      generalize s.heap.update a (Obj.putSet es1 t1) = h1 at sb ho1 ⊢
      have mv : ∀ {k : List α} {b : Addr}, IsTupleKey κ s.heap k b → IsTupleKey κ h1 k b := fun {k b} hb => by
        obtain ⟨o', items, n, ho', hc, hd', hi⟩ := hb
        have hne : b ≠ a := fun e => by
          rw [e, ho] at ho'
          cases ho'
          rw [hd] at hd'
          exact nomatch hd'
        exact ⟨o', items, n, (sb.2 b hne).trans ho', hc, hd', hi⟩
      have tup1 : ∀ p ∈ L1, IsTupleKey κ h1 p.2 p.1 := fun p hp => by
        rcases List.mem_cons.mp (pm.mem_iff.mp hp) with e | hp
        · rw [e]; exact mv hx
        · exact mv (R.tup p hp)
      have hf : ¬ t1.tooFull = true := fun h => by
        unfold SetTable.tooFull at h
        rw [decide_eq_true_eq, q9, List.length_map, q4, hm7] at h
        omega
      first
        | refine wp_if_neg (by simp [hf]) ?_
        | (refine wpAny_bind ?_; refine wp_if_neg (by simp [hf]) ?_; refine wpAny_pure ?_)
      exact wpAny_pure (hQ true h1 L1 es1 (ep + 1) t1 sb ⟨⟨_, ho1, ⟨hex.1, hex.2.1, hex.2.2⟩, rfl⟩, hin, q3, nd1, tup1, by rw [q5]; exact R.led, by rw [q4]; exact hm7, by rw [hlen]; exact hfew⟩ (fun z => absurd z hm) fun _ => pm)
    by_cases hp : t0.plain = true
    · refine wp_if_pos hp (wpAny_bind (hash_any hκ hx fun bv => ?_))
      cases bv <;> exact core _ rfl rfl rfl rfl
    · refine wp_if_neg hp ?_
      first
        | exact core _ rfl rfl rfl rfl
        | exact wpAny_bind (wpAny_pure (core _ rfl rfl rfl rfl))
end
end AL
set_option Elab.async false
set_option linter.all false
set_option autoImplicit false
set_option maxRecDepth 100000
set_option maxHeartbeats 4000000
namespace AL
open PySem PySem.Spec PyProof.Rows L2
section
variable {P : Program} {w : World} {α : Type} [DecidableEq α] {κ : KeyKind P w α}
/-- what a set has of the first i items -/
structure HasM (ks : List (Addr × List α)) (i : Nat) (L : List (Addr × List α)) : Prop where
  sub : ∀ p ∈ L, p ∈ ks.take i
  all : ∀ p ∈ ks.take i, p.2 ∈ L.map (·.2)
  len : L.length ≤ i
theorem take_one {β : Type} {l : List β} {i : Nat} {x : β} (h : l[i]? = some x) : l.take (i + 1) = l.take i ++ [x] := by rw [List.take_add_one, h]; rfl
theorem HasM.same {ks L : List (Addr × List α)} {i : Nat} {x : Addr × List α} (g : HasM ks i L) (h : ks[i]? = some x) (hm : x.2 ∈ L.map (·.2)) : HasM ks (i + 1) L := by
  refine ⟨fun p hp => ?_, fun p hp => ?_, Nat.le_succ_of_le g.len⟩
  · rw [take_one h]; exact List.mem_append_left _ (g.sub p hp)
  · rw [take_one h] at hp
    rcases List.mem_append.mp hp with z | z
    · exact g.all p z
    · rw [List.mem_singleton.mp z]; exact hm
theorem HasM.more {ks L L' : List (Addr × List α)} {i : Nat} {x : Addr × List α} (g : HasM ks i L) (h : ks[i]? = some x) (pm : L'.Perm (x :: L)) : HasM ks (i + 1) L' := by
  refine ⟨fun p hp => ?_, fun p hp => ?_, by rw [pm.length_eq, List.length_cons]; exact Nat.succ_le_succ g.len⟩
  · rw [take_one h]
    rcases List.mem_cons.mp (pm.mem_iff.mp hp) with e | z
    · rw [e]; exact List.mem_append_right _ (List.mem_singleton.mpr rfl)
    · exact List.mem_append_left _ (g.sub p z)
  · rw [(pm.map (·.2)).mem_iff, List.map_cons]
    rw [take_one h] at hp
    rcases List.mem_append.mp hp with z | z
    · exact List.mem_cons_of_mem _ (g.all p z)
    · rw [List.mem_singleton.mp z]; exact List.mem_cons_self
theorem key_keep {h h' : Heap} {k : List α} {b : Addr} (x : IsTupleKey κ h k b) (hk : ∀ c o, h.get? c = some o → h'.get? c = some o) : IsTupleKey κ h' k b := by
  obtain ⟨o, items, n, ho, r⟩ := x
  exact ⟨o, items, n, hk b o ho, r⟩
theorem SetM.keep {h h' : Heap} {a : Addr} {L : List (Addr × List α)} {es : Array (Int × Value)} {ep : Nat} {t : SetTable} (R : SetM κ h a L es ep t) (ha : ∀ o, h.get? a = some o → h'.get? a = some o) (ht : ∀ p ∈ L, IsTupleKey κ h' p.2 p.1) : SetM κ h' a L es ep t := by
  obtain ⟨o, ho, r⟩ := R.ob
  exact ⟨⟨o, ha o ho, r⟩, R.rows, R.tab, R.nd, ht, R.led, R.m7, R.few⟩
theorem setM_new {h : Heap} {a : Addr} (ho : h.get? a = some { cls := .type "set", dict := none, data := .set #[] 0 (.fresh 0 0 (!w.params.followText "set-order")) }) : SetM κ h a [] #[] 0 (.fresh 0 0 (!w.params.followText "set-order")) where
  ob := ⟨_, ho, ⟨rfl, rfl, rfl⟩, rfl⟩
  rows := rfl
  tab := ⟨List.Pairwise.nil, rfl, rfl, .inl rfl, fun x hx => (by cases hx), fun i h j hi => (by simp at hi)⟩
  nd := List.nodup_nil
  tup := fun p hp => (by cases hp)
  led := by
    show _ ∨ (!w.params.followText "set-order") = true
    cases w.params.followText "set-order"
    · exact .inr rfl
    · exact .inl rfl
  m7 := rfl
  few := Nat.zero_le _
end
section
variable {P : Program} {w : World} {α : Type} [DecidableEq α] {κ : KeyKind P w α} {A : Around} {E : Value → Shared → Prop} {s : Shared}
/-- the items put in, one by one -/
theorem upd_m (hκ : PlainK κ) {I : Addr} {fp wr : List Addr} {G : Array GenState → Array GenState → Prop} {n : Nat} {Pv : Nat → Value → Prop} {St : Nat → Shared → Prop} {R : Result → Shared → Prop}
    (W : WalksS P w A.in1 I fp wr G n Pv St) (Z : Addr) (hSf : Z ∉ fp) (ks : List (Addr × List α)) (hn : n = ks.length) (hfew : ks.length ≤ 4) (hval : ∀ i v, Pv i v → ∃ p, ks[i]? = some p ∧ v = .ref p.1)
    (h0 : Heap) (hks : ∀ p ∈ ks, IsTupleKey κ h0 p.2 p.1) (hS0 : h0.get? Z = none) (hw0 : ∀ b ∈ wr, h0.get? b = none) (hu : A.in1.units < cLine) :
    ∀ (k i : Nat) (s : Shared), n - i = k → i ≤ n → St i s → (∀ b o, h0.get? b = some o → s.heap.get? b = some o) → (∃ L es ep t, SetM κ s.heap Z L es ep t ∧ HasM ks i L) →
      (∀ s' L es ep t, Moved (Z :: wr) G s s' → SetM κ s'.heap Z L es ep t → HasM ks n L → (∀ b o, h0.get? b = some o → s'.heap.get? b = some o) → R (.ok (.ret .none)) s') →
      codeAny (model P w) A (.builtin "set.update.loop" ⟨[.ref Z, .ref I], []⟩) R s := by
  have hSw : Z ∉ wr := fun h => hSf (W.sub _ h)
  have hsub : ∀ b ∈ wr, b ∈ Z :: wr := fun b hb => List.mem_cons_of_mem _ hb
  have keepM : ∀ {s s' : Shared}, Moved wr G s s' → (∀ b o, h0.get? b = some o → s.heap.get? b = some o) → ∀ b o, h0.get? b = some o → s'.heap.get? b = some o := fun hm hkp b o e =>
    hm.heap b o (fun hb => by rw [hw0 b hb] at e; cases e) (hkp b o e)
  intro k
  induction k with
  | zero =>
    intro i s hk' hi hst hkp ⟨L, es, ep, t, hS, g⟩ hR
    obtain rfl : i = n := by omega
    refine codeAny_builtin F.entry_set_update_loop ?_
    rw [Around.under_plainId F.plain_set_update_loop _]
    show wpAny _ A.in1 (pyNext (.ref I) >>= _) _ _ s
    refine wpAny_bind (W.done s _ _ hst fun s' hm => ?_)
    show wpAny _ A.in1 (ret Value.none) _ _ s'
    have hkp' := keepM hm hkp
    exact wpAny_pure (hR s' L es ep t (hm.mono hsub) (hS.keep (fun o e => hm.heap Z o hSw e) fun p hp => key_keep (hks p (List.mem_of_mem_take (g.sub p hp))) hkp') g hkp')
  | succ k ih =>
    intro i s hk' hi hst hkp ⟨L, es, ep, t, hS, g⟩ hR
    have hlt : i < n := by omega
    refine codeAny_builtin F.entry_set_update_loop ?_
    rw [Around.under_plainId F.plain_set_update_loop _]
    show wpAny _ A.in1 (pyNext (.ref I) >>= _) _ _ s
    refine wpAny_bind (W.item i s _ _ hlt hst fun v s' hP hst' hm => ?_)
    obtain ⟨p, hp, rfl⟩ := hval i v hP
    have hkp' := keepM hm hkp
    have hS' : SetM κ s'.heap Z L es ep t := hS.keep (fun o e => hm.heap Z o hSw e) fun q hq => key_keep (hks q (List.mem_of_mem_take (g.sub q hq))) hkp'
    have hx : IsTupleKey κ s'.heap p.2 p.1 := key_keep (hks p (List.mem_of_getElem? hp)) hkp'
    show wpAny _ A.in1 (holding [Value.ref p.1] (setAdd Z (.ref p.1)) >>= _) _ _ s'
    refine wpAny_bind (wpAny_holding ?_)
    unfold setAdd
    refine wpAny_holding (wpAny_bind (wpAny_pyHash_tuple hu hx ?_))
    refine add_m (s := { s' with toks := s'.toks + (p.2.length + 1) }) hκ hS' hx hu (by have := g.len; omega) fun b h' L' es' ep' t' hsb hS2 c1 c2 => ?_
    have g' : HasM ks (i + 1) L' := by
      rcases Classical.em (p.2 ∈ L.map (·.2)) with c | c
      · rw [c1 c]; exact g.same hp c
      · exact g.more hp (c2 c)
    have hkp2 : ∀ b o, h0.get? b = some o → h'.get? b = some o := fun b o e => (hsb.2 b (fun z => by rw [z, hS0] at e; cases e)).trans (hkp' b o e)
    refine wpAny_pure ⟨plainId_quiet F.plain_set_update_loop _, ih (i + 1) _ (by omega) hlt (W.frame _ s' _ _ hst' (Nat.le_add_right _ _) fun b hb o e => ?_) hkp2 ⟨L', es', ep', t', hS2, g'⟩ fun s'' L2 es2 ep2 t2 hm'' hS'' g'' hkp'' => ?_⟩
    · rw [hsb.2 b (fun h : b = Z => hSf (by rw [← h]; exact hb))]; exact e
    · refine hR s'' L2 es2 ep2 t2 (Moved.trans W.gtrans ((hm.mono hsub).then_heap (Nat.le_add_right _ _) fun b o hb e => ?_) hm'') hS'' g'' hkp''
      rw [hsb.2 b (fun h : b = Z => hb (by rw [h]; exact List.mem_cons_self))]; exact e
/-- set(xs) -/
theorem call_sm (hκ : PlainK κ) {l : Addr} {items : Array Value} (ks : List (Addr × List α)) {Q : Value → Shared → Prop} (hh : A.handled = none) (hl : s.heap.IsList l items) (hit : items.toList = ks.map fun p => Value.ref p.1)
    (hks : ∀ p ∈ ks, IsTupleKey κ s.heap p.2 p.1) (hfew : ks.length ≤ 4) (hu : A.units + 3 < cLine)
    (h : ∀ (h' : Heap) (tk : Nat) L es ep t, SetM κ h' s.heap.objs.size L es ep t → HasM ks ks.length L → (∀ b o, s.heap.get? b = some o → h'.get? b = some o) → Q (.ref s.heap.objs.size) { s with heap := h', toks := tk }) :
    wpAny (model P w) A (call (.type "set") [.ref l]) Q E s := by
  have hisz : items.size = ks.length := by
    have q := congrArg List.length hit
    rwa [Array.length_toList, List.length_map] at q
  obtain ⟨c, tl, hmro⟩ := F.called_set.mro
  have hmade := F.called_set.made
  have hsub := F.called_set.sub
  refine wpAny_call (codeAny_of_tree ?_)
  show wpAny _ _ (callAny (.type "set") _) _ _ _
  refine wpAny_pure ⟨Code.quiet_builtin _ (by decide +kernel), codeAny_builtin F.entry_type_call ?_⟩
  rw [Around.under_plain (weight_type_call_type "set" [.ref l] []) rfl]
  have h1 := F.called_set.notType
  have h2 := F.called_set.canCreate
  have hct := F.typeCall_set_1 (.ref l)
  repeat (any_goals (first | assumption | wp_step))
  obtain ⟨N, hN⟩ : ∃ N : Heap, N = s.heap.push { cls := .type "set", dict := none, data := .set #[] 0 (.fresh 0 0 (!w.params.followText "set-order")) } := ⟨_, rfl⟩
  refine codeAny_mono (code_set_led1 (.ref l) (E := E) (Q₁ := fun obj s₁ => obj = .ref s.heap.objs.size ∧ s₁ = { s with heap := N }) ⟨rfl, by rw [hN]⟩) fun r s₁ hr => ?_
  cases r with
  | error e => exact hr
  | ok fl =>
    cases fl with
    | ret obj =>
      obtain ⟨rfl, rfl⟩ := hr
      have hS : N.get? s.heap.objs.size = some { cls := .type "set", dict := none, data := .set #[] 0 (.fresh 0 0 (!w.params.followText "set-order")) } := by rw [hN]; exact Heap.get?_push_size _ rfl
      have old : ∀ b o, s.heap.get? b = some o → N.get? b = some o := fun b o e => by rw [hN]; exact Heap.get?_push_of_some _ e
      have hz1 : N.objs.size = s.heap.objs.size + 1 := by rw [hN]; exact Heap.size_push ..
      have hT : Shared.TypeIs { s with heap := N } (.ref s.heap.objs.size) "set" := ⟨_, hS, rfl⟩
      have hli := F.called_set.init.lookup
      have hbi := F.called_set.init.bind (.ref s.heap.objs.size)
      repeat (any_goals (first | assumption | wp_step))
      refine codeAny_mono (codeAny_call_builtin (R := wants (fun r s₂ => r = .none ∧ ∃ h' tk L es ep t, s₂ = { s with heap := h', toks := tk } ∧ SetM κ h' s.heap.objs.size L es ep t ∧ HasM ks ks.length L ∧
          (∀ b o, s.heap.get? b = some o → h'.get? b = some o)) E) F.called_set.init.plain F.entry_set_init (check_set_init_1 hT ?_)) fun r₂ s₂ hr₂ => ?_
      · have hl0 := hl
        obtain ⟨ol, hol, hcl, nl, hdl⟩ := hl
        obtain ⟨ocls, odict, odata, oslots⟩ := ol
        simp only at hcl hdl
        subst hcl; subst hdl
        have hol' : N.get? l = some { cls := .type "list", dict := odict, data := .seq items nl, slots := oslots } := old _ _ hol
        have hsls := F.sub_list_set
        have hslf := F.sub_list_frozenset
        have hne : (Value.type "list" == Value.type "dict") = false := by decide
        have hl1 : N.IsList l items := ⟨_, hol', rfl, nl, rfl⟩
        unfold Builtin.«set.__init__» noKeywords Builtin.Frozenset.updateFrom
        generalize hPI : pyIter = PI
        wp_walk
        subst hPI
        refine wpAny_pyIter_list hl1 ?_
        refine wpAny_bind (wpAny_runValue ?_)
        have hlS : l < s.heap.objs.size := Heap.lt_size hol
        have hh3 : A.in1.in1.in1.handled = none := by simp [hh]
        have hneI : l ≠ N.objs.size := by rw [hz1]; exact Nat.ne_of_lt (Nat.lt_succ_of_lt hlS)
        have hSf : s.heap.objs.size ∉ [N.objs.size, l] := by
          rw [hz1]; simp only [List.mem_cons, List.mem_singleton, List.not_mem_nil, or_false, not_or]
          exact ⟨Nat.ne_of_lt (Nat.lt_succ_self _), Nat.ne_of_gt hlS⟩
        have hval : ∀ (i : Nat) (v : Value), items[i]? = some v → ∃ p, ks[i]? = some p ∧ v = .ref p.1 := fun i v hv => by
          have q : items.toList[i]? = some v := by rw [Array.getElem?_toList]; exact hv
          rw [hit, List.getElem?_map] at q
          cases hq : ks[i]? with
          | none => rw [hq] at q; cases q
          | some p =>
            rw [hq] at q
            exact ⟨p, rfl, (Option.some.inj q).symm⟩
        have none_of : ∀ b, s.heap.objs.size ≤ b → s.heap.get? b = none := fun b hb => by
          cases q : s.heap.get? b with
          | none => rfl
          | some o => exact absurd (Nat.lt_of_lt_of_le (Heap.lt_size q) hb) (Nat.lt_irrefl _)
        refine upd_m hκ ((Walks.list hh3 _ l hneI items).toS) s.heap.objs.size
          hSf ks hisz hfew hval s.heap hks (none_of _ (Nat.le_refl _)) (fun b hb => none_of b (by
            rw [List.mem_singleton.mp hb, hz1]
            exact Nat.le_succ _)) hu (items.size - 0) 0 _ (by omega) (Nat.zero_le _)
          ⟨⟨_, Heap.get?_push_size _ rfl, rfl, rfl⟩, (hl1.push _)⟩ (fun b o e => Heap.get?_push_of_some _ (old _ _ e)) ?hS0 ?hR
        case hS0 =>
          exact ⟨[], #[], 0, _, setM_new (Heap.get?_push_of_some _ hS), ⟨fun p hp => (by cases hp), fun p hp => (by simp at hp), Nat.le_refl _⟩⟩
        case hR =>
          intro s' L es ep t hm hS' g' hkp
          obtain ⟨h', g2, d', tk', os'⟩ := s'
          have eg : g2 = s.gens := hm.gens
          have ed : d' = s.drawn := hm.drawn
          have eo : os' = s.os := hm.os
          subst eg; subst ed; subst eo
          show wpAny _ _ _ _ _ _
          refine wpAny_pure ?_
          show wpAny _ _ (ret Value.none) _ _ _
          rw [hisz] at g'
          exact wpAny_pure ⟨rfl, h', tk', L, es, ep, t, rfl, hS', g', hkp⟩
      · cases r₂ with
        | error e => exact hr₂
        | ok fl₂ =>
          cases fl₂ with
          | ret r =>
            obtain ⟨rfl, h', tk, L, es, ep, t, rfl, hS', g', hk'⟩ := hr₂
            repeat (any_goals (first | assumption | wp_step))
            exact h _ _ _ _ _ _ hS' g' hk'
          | _ => exact hr₂.elim
    | _ => exact hr.elim
end
end AL
set_option Elab.async false
set_option linter.all false
set_option autoImplicit false
set_option maxRecDepth 100000
set_option maxHeartbeats 4000000
namespace AL
open PySem PySem.Spec PySem.W PySem.Calls PyProof.Rows L2 PySem.SeqAt
section
variable {prog : Program} {w : World} {A : Around} {E : Value → Shared → Prop} {s : Shared}
theorem call_tuple_lt {Q : Value → Shared → Prop} {l b : Addr} {items items2 : Array Value} {e r : Nat → Bool} (hl : s.heap.IsTuple l items) (hb : s.heap.IsTuple b items2)
    (he : ∀ j (h1 : j < items.size) (h2 : j < items2.size), EqAt A.in1 s items[j] items2[j] (e j)) (hr : ∀ j (h1 : j < items.size) (h2 : j < items2.size), e j = false → RcLt A.in1 s items[j] items2[j] (r j))
    (h : Q (.bool (firstLt e r (decide (items.size < items2.size)) (List.range (min items.size items2.size)))) s) : wpAny (model prog w) A (call (.builtin "tuple.__lt__") [.ref l, .ref b]) Q E s := by
  obtain ⟨⟨cls, dd, data, sl⟩, ho, hc, n, hd⟩ := id hl
  obtain ⟨⟨cls2, dd2, data2, sl2⟩, ho2, hc2, n2, hd2⟩ := id hb
  simp only at hc hd hc2 hd2
  subst hc hd hc2 hd2
  exact call_meets F.slot_tuple_lt ⟨_, ho, rfl⟩ F.entry_tuple_lt (F.args_tuple_lt_2 _ _) (tuple_ltAt l b items items2 n n2 dd dd2 sl sl2 e r) ⟨ho, ho2, he, hr, h⟩
theorem oneLt_tup {xs ys : List PyData} {a b : Value} {as bs : List Addr} {Q : Bool → Shared → Prop} (ra : Reads s.heap a (.tuple xs) as) (rb : Reads s.heap b (.tuple ys) bs) (hal : alikeAll xs ys = true) (hu : A.units + min (PyData.tuple xs).depth (PyData.tuple ys).depth < cLine)
    (hq : Q (dataLt (.tuple xs) (.tuple ys)) s) : wpAny (model prog w) A (oneLt' true a b) Q E s := by
  cases ra with
  | @tuple l o vs n _ as₁ h1 h2 h3 h4 =>
    cases rb with
    | @tuple l' o' vs' n' _ bs₁ k1 k2 k3 k4 =>
      have n1 : vs.size = xs.length := by simpa using ReadsAll.length _ _ _ h4
      have n2 : vs'.size = ys.length := by simpa using ReadsAll.length _ _ _ k4
      rw [dataLt_tuple, ← firstLt_toks xs ys hal, ← n1, ← n2] at hq
      rw [oneLt'_eq]
      simp only [if_true]
      refine wpAny_bind (wpAny_cRoomFor (room_here hu) ?_)
      refine wpAny_bind (wpAny_callSpecialIfBound?_slot (T := "tuple") ⟨_, h1, h2⟩ F.slot_tuple_lt (call_tuple_lt (e := pairEq xs ys) (r := fun j => dataLt (xs.getD j .none) (ys.getD j .none)) ⟨_, h1, h2, _, h3⟩ ⟨_, k1, k2, _, k3⟩ (fun j j1 j2 => ?_) (fun j j1 j2 hj => ?_) ?_))
      · have := eqAt_alikeAll xs ys A.in1 s vs.toList vs'.toList _ _ h4 k4 hal (room_in hu) j (by simpa using j1) (by simpa using j2)
        simpa using this
      · have := rcLt_alikeAll xs ys A.in1 s vs.toList vs'.toList _ _ h4 k4 hal (room_in hu) j (by simpa using j1) (by simpa using j2) hj
        simpa using this
      · exact wpAny_truthy_bool hq
/-- values that are tuples, and what stands first in each -/
inductive TupsO (h : Heap) : List Value → List (Option Value) → Prop
  | nil : TupsO h [] []
  | cons {a : Addr} {o : Obj} {xs : Array Value} {n : Nat} {vs : List Value} {fs : List (Option Value)} : h.get? a = some o → o.cls = .type "tuple" → o.data = .seq xs n → TupsO h vs fs → TupsO h (.ref a :: vs) (xs[0]? :: fs)
theorem firsts_o {M : Model} : ∀ {vs : List Value} {fs : List (Option Value)} {Q : List (Option Value) → Shared → Prop}, TupsO s.heap vs fs → Q fs s → wpAny M A (vs.mapM firstOfTuple') Q E s
  | _, _, _, .nil, h => by rw [List.mapM_nil]; exact wpAny_pure h
  | _, _, Q, .cons (fs := fs) ho hc hd t, h => by
    rw [List.mapM_cons]
    refine wpAny_bind ?_
    rw [kas_first_eq]
    refine wpAny_bind (Looks.here ((Looks.ld ho).andThen .now) ?_)
    rw [hc, if_neg (by first | decide | simp)]
    refine wpAny_bind (listItems_at ho hd (wpAny_pure ?_))
    exact wpAny_bind (firsts_o t (Q := fun bs s' => wpAny M A (pure (_ :: bs)) Q E s') (wpAny_pure h))
theorem TupsO.looks {M : Model} {h : Heap} : ∀ {vs : List Value} {fs : List (Option Value)}, TupsO h vs fs → ∀ v ∈ vs, Looks M h (typeOf v) (.type "tuple")
  | _, _, .nil, v, hv => by cases hv
  | _, _, .cons ho hc hd t, v, hv => by
    rcases List.mem_cons.mp hv with rfl | hv
    · exact hc ▸ (Looks.ld ho).andThen .now
    · exact t.looks v hv
theorem TupsO.len {h : Heap} : ∀ {vs : List Value} {fs : List (Option Value)}, TupsO h vs fs → vs.length = fs.length
  | _, _, .nil => rfl
  | _, _, .cons _ _ _ t => by rw [List.length_cons, List.length_cons, t.len]
theorem kind_o {M : Model} {vs : List Value} {fs : List (Option Value)} {Q : SortKind → Shared → Prop} (t : TupsO s.heap vs fs) (hne : 1 ≤ vs.length) (hno : (fs.all fun x => x.isSome) = false)
    (h : Q (if (fs.head?.bind id).isSome = true then general' else oneType') s) : wpAny M A (keyKind' vs.toArray) Q E s := by
  rw [keyKind'_eq, List.mapM_toArray, map_eq_pure_bind]
  refine wpAny_bind (wpAny_bind (firsts_o t (wpAny_pure ?_)))
  rw [if_neg (by simp only [List.all_toArray]; rw [hno]; decide)]
  have h0 : (fs.toArray)[0]? = fs.head? := by rw [List.getElem?_toArray, List.head?_eq_getElem?]
  rw [h0]
  by_cases hb : (fs.head?.bind id).isSome = true
  · rw [if_pos hb] at h
    rw [if_pos hb]
    exact wpAny_pure h
  · rw [if_neg hb] at h
    rw [if_neg hb]
    have hT2 : (Value.type "tuple" == Value.type "tuple") = true := rfl
    rw [oneTypeOnly'_eq, List.mapM_toArray, map_eq_pure_bind]
    refine wpAny_bind (wpAny_bind (wpAny_bind (kas_mapM (r := Value.type "tuple") _ (fun v hv Q' hq => (t.looks v hv).here hq) (wpAny_pure ?_))))
    have hall : ((List.map (fun _ => Value.type "tuple") vs).toArray.all fun x => x == Value.type "tuple") = true := by
      simp only [List.all_toArray, List.all_map, List.all_eq_true]
      intro _ _
      exact hT2
    have h1 : (List.map (fun _ => Value.type "tuple") vs).toArray[0]? = some (Value.type "tuple") := by
      cases vs with
      | nil => simp at hne
      | cons v vs => simp
    rw [h1]
    simp only [hall, if_true]
    exact wpAny_pure (wpAny_pure h)
theorem tups_o {h : Heap} : ∀ {vs : List Value} {ds : List PyData}, EachIs (fun v d => ∃ as, Reads h v d as) vs ds → (∀ d ∈ ds, ∃ xs, d = .tuple xs) → ∃ fs, TupsO h vs fs ∧ ((fs.all fun x => x.isSome) = true → ∀ d ∈ ds, ∃ x r, d = .tuple (x :: r))
  | _, _, .nil, _ => ⟨[], .nil, fun _ d hd => by cases hd⟩
  | _, _, .cons (b := d) ⟨as, r⟩ t, hd => by
    obtain ⟨fs, h1, h2⟩ := tups_o t fun d hm => hd d (List.mem_cons_of_mem _ hm)
    obtain ⟨xs, rfl⟩ := hd d List.mem_cons_self
    cases r with
    | @tuple a o its n _ _ ho hc hdt hr =>
      refine ⟨_, .cons ho hc hdt h1, fun hall e he => ?_⟩
      rw [List.all_cons, Bool.and_eq_true] at hall
      rcases List.mem_cons.mp he with rfl | he
      · cases xs with
        | cons x r => exact ⟨x, r, rfl⟩
        | nil =>
          have hn : its.toList = [] := by cases hq : its.toList with
            | nil => rfl
            | cons _ _ => rw [hq] at hr; cases hr
          have : its[0]? = none := by rw [← Array.getElem?_toList, hn]; rfl
          rw [this] at hall
          exact absurd hall.1 (by decide)
      · exact h2 hall.2 e he
/-- tuples of any lengths, alike, can be sorted -/
theorem sortsAt_tups {vs : List Value} {ds : List PyData} (e : EachIs (fun v d => ∃ as, Reads s.heap v d as) vs ds) (hal : AllAlike ds) (ht : ∀ d ∈ ds, ∃ xs, d = .tuple xs) (hu : ∀ d, d ∈ ds → A.units + d.depth < cLine) : SortsAt prog w A s (dataKind s.heap ds) vs := by
  by_cases hne : ∀ d ∈ ds, ∃ x r, d = PyData.tuple (x :: r)
  · exact SortsAt.data e hal (.inl hne) hu
  obtain ⟨fs, h1, h2⟩ := tups_o e ht
  have hno : (fs.all fun x => x.isSome) = false := by
    cases hb : fs.all fun x => x.isSome with
    | false => rfl
    | true => exact absurd (h2 hb) hne
  have room : ∀ {d d' : PyData}, d ∈ ds → A.units + min d.depth d'.depth < cLine := fun {d d'} hd => Nat.lt_of_le_of_lt (Nat.add_le_add_left (Nat.min_le_left _ _) _) (hu d hd)
  refine ⟨fun v hv => ?_, ?_⟩
  · obtain ⟨d, hd, as, r⟩ := e.left v hv
    exact ⟨_, dataKind_some hal hd r⟩
  · refine ⟨if (fs.head?.bind id).isSome = true then general' else oneType', ?_, fun h2 E Q hq => kind_o h1 (by omega) hno hq⟩
    intro E x y a b Q ha hb hq
    obtain ⟨d, as, hd, ra, rfl⟩ := dataKind_inv ha
    obtain ⟨d', as', hd', rb, rfl⟩ := dataKind_inv hb
    have hdd := hal d hd d' hd'
    have hq : Q (dataLt d d') s := hq
    by_cases hc : (fs.head?.bind id).isSome = true
    · rw [if_pos hc]
      show wpAny _ _ (oneLt' false x y) _ _ _
      obtain ⟨xs, rfl⟩ := ht d hd
      exact oneLt_alike (fun z => nomatch z) ra rb hdd (fun z => nomatch z) (room hd) hq
    · rw [if_neg hc]
      show wpAny _ _ (oneLt' true x y) _ _ _
      have hr := room (d' := d') hd
      obtain ⟨xs, rfl⟩ := ht d hd
      obtain ⟨ys, rfl⟩ := ht d' hd'
      exact oneLt_tup ra rb (by simpa [alike] using hdd) hr hq
end
end AL
set_option Elab.async false
set_option linter.all false
set_option autoImplicit false
set_option maxRecDepth 100000
set_option maxHeartbeats 4000000
namespace AL
open PySem PySem.Spec PyProof.Rows L2 PySem.W
def encT (k : List Str) : PyData := .tuple (k.map PyData.str)
theorem toks_inj : ∀ {a b : List Str}, keyToksAll (a.map PyData.str) = keyToksAll (b.map PyData.str) → a = b
  | [], [], _ => rfl
  | [], y :: b, h => by simp [keyToksAll] at h
  | x :: a, [], h => by simp [keyToksAll] at h
  | x :: a, y :: b, h => by
    simp only [List.map_cons, keyToksAll, keyToks, List.cons_append, List.nil_append, List.cons.injEq, Sum.inr.injEq, true_and] at h
    obtain ⟨h1, h2⟩ := h
    rw [toks_inj h2, str_of_cps h1]
theorem encT_inj {a b : List Str} (h : keyToks (encT a) = keyToks (encT b)) : a = b := by
  unfold encT at h
  simp only [keyToks] at h
  exact toks_inj h
theorem leT_anti {a b : List Str} (h1 : dataLe false encT a b = true) (h2 : dataLe false encT b a = true) : a = b := by
  have h1 : (!(listOrd itemOrd).blt (keyToks (encT b)) (keyToks (encT a))) = true := h1
  have h2 : (!(listOrd itemOrd).blt (keyToks (encT a)) (keyToks (encT b))) = true := h2
  rw [Bool.not_eq_true'] at h1 h2
  exact encT_inj ((listOrd itemOrd).total _ _ h2 h1)
theorem leT_trans (a b c : List Str) (h1 : dataLe false encT a b = true) (h2 : dataLe false encT b c = true) : dataLe false encT a c = true := by
  have h1 : (!(listOrd itemOrd).blt (keyToks (encT b)) (keyToks (encT a))) = true := h1
  have h2 : (!(listOrd itemOrd).blt (keyToks (encT c)) (keyToks (encT b))) = true := h2
  show (!(listOrd itemOrd).blt (keyToks (encT c)) (keyToks (encT a))) = true
  rw [Bool.not_eq_true'] at h1 h2 ⊢
  cases h : (listOrd itemOrd).blt (keyToks (encT c)) (keyToks (encT a)) with
  | false => rfl
  | true =>
    rcases (listOrd itemOrd).negTrans _ (keyToks (encT b)) _ h with z | z
    · rw [z] at h2; cases h2
    · rw [z] at h1; cases h1
theorem leT_total (a b : List Str) : (dataLe false encT a b || dataLe false encT b a) = true := by
  show ((!(listOrd itemOrd).blt (keyToks (encT b)) (keyToks (encT a))) || (!(listOrd itemOrd).blt (keyToks (encT a)) (keyToks (encT b)))) = true
  cases h : (listOrd itemOrd).blt (keyToks (encT b)) (keyToks (encT a)) with
  | false => rfl
  | true =>
    cases h2 : (listOrd itemOrd).blt (keyToks (encT a)) (keyToks (encT b)) with
    | false => rfl
    | true =>
      have := (listOrd itemOrd).trans _ _ _ h h2
      rw [(listOrd itemOrd).irrefl] at this; cases this
/-- each of them once -/
def onesT : List (List Str) → List (List Str)
  | [] => []
  | x :: xs => x :: (onesT xs).filter (fun y => y ≠ x)
theorem onesT_mem : ∀ (xs : List (List Str)) (k : List Str), k ∈ onesT xs ↔ k ∈ xs
  | [], k => by simp [onesT]
  | x :: xs, k => by
    have ih := onesT_mem xs k
    rw [onesT, List.mem_cons, List.mem_filter, ih, List.mem_cons]
    by_cases h : k = x <;> simp [h]
theorem onesT_nodup : ∀ xs : List (List Str), (onesT xs).Nodup
  | [] => List.nodup_nil
  | x :: xs => by
    rw [onesT, List.nodup_cons]
    refine ⟨fun h => ?_, (onesT_nodup xs).sublist List.filter_sublist⟩
    have := (List.mem_filter.mp h).2
    simp at this
noncomputable def srtT (xs : List (List Str)) : List (List Str) := (onesT xs).mergeSort (dataLe false encT)
theorem srtT_uniq {ys xs : List (List Str)} (nd : ys.Nodup) (hm : ∀ k, k ∈ xs ↔ k ∈ ys) : ys.mergeSort (dataLe false encT) = srtT xs := by
  have pm : ys.Perm (onesT xs) := (List.perm_ext_iff_of_nodup nd (onesT_nodup xs)).mpr fun k => by rw [onesT_mem, hm]
  exact List.Perm.eq_of_pairwise (le := fun a b => dataLe false encT a b = true) (fun a b _ _ h1 h2 => leT_anti h1 h2) (List.pairwise_mergeSort leT_trans leT_total _) (List.pairwise_mergeSort leT_trans leT_total _) ((List.mergeSort_perm _ _).trans (pm.trans (List.mergeSort_perm _ _).symm))
theorem srtT_mem {xs : List (List Str)} {k : List Str} : k ∈ srtT xs ↔ k ∈ xs := by
  unfold srtT
  rw [(List.mergeSort_perm _ _).mem_iff, onesT_mem]
section
variable {P : Program} {w : World} {A : Around} {E : Value → Shared → Prop} {s : Shared}
theorem reads_items {h : Heap} : ∀ {k : List Str} {vs : List Value}, ItemsAre (strKind P w) k vs → ∃ as, ReadsAll h vs (k.map PyData.str) as
  | _, _, .nil => ⟨[], .nil⟩
  | _, _, .cons h1 t => by
    obtain ⟨tk, rfl⟩ := txt_is h1
    obtain ⟨as, r⟩ := reads_items (h := h) t
    exact ⟨[] ++ as, .cons (.str _ tk) r⟩
theorem reads_key {h : Heap} {k : List Str} {b : Addr} (x : IsTupleKey (strKind P w) h k b) : ∃ as, Reads h (.ref b) (encT k) as := by
  obtain ⟨o, items, n, ho, hc, hd, hi⟩ := x
  obtain ⟨as, r⟩ := reads_items (h := h) hi
  exact ⟨as, .tuple ho hc hd r⟩
theorem alikeT (a b : List Str) : alike (encT a) (encT b) = true := by
  have key : ∀ a b : List Str, alikeAll (a.map PyData.str) (b.map PyData.str) = true := by
    intro a
    induction a with
    | nil => intro b; simp [alikeAll]
    | cons x a ih =>
      intro b
      cases b with
      | nil => simp [alikeAll]
      | cons y b => simp [alikeAll, alike, ih b]
  unfold encT
  simp [alike, key]
theorem depthT (k : List Str) : (encT k).depth ≤ 1 := by
  have key : ∀ k : List Str, PyData.depthAll (k.map PyData.str) = 0 := by
    intro k
    induction k with
    | nil => simp [PyData.depthAll]
    | cons x k ih => simp [PyData.depthAll, PyData.depth, ih]
  unfold encT
  simp [PyData.depth, key]
/-- sorted(a set) -/
theorem sorted_sm {a : Addr} {L : List (Addr × List Str)} {es : Array (Int × Value)} {ep : Nat} {t : SetTable} {T : List (List Str)} {Q : Value → Shared → Prop} (R : SetM (strKind P w) s.heap a L es ep t) (hm : ∀ k, k ∈ T ↔ k ∈ L.map (·.2)) (hh : A.handled = none) (hu : A.units + 130 < cLine)
    (hQ : ∀ s' p (out : List Value) (c : Nat) (L2 : List (Addr × List Str)), (∀ b o, s.heap.get? b = some o → s'.heap.get? b = some o) → s'.gens = s.gens → s'.os = s.os → s.heap.objs.size ≤ p →
      s'.heap.get? p = some (seqObj "list" out.toArray c) → out = L2.map (fun q => Value.ref q.1) → (∀ q ∈ L2, q ∈ L) → L2.map (·.2) = srtT T → out.length ≤ sizeLine → Q (.ref p) s') :
    wpAny (model P w) A (call (.builtin "sorted") [.ref a]) Q E s := by
  obtain ⟨o, ho, hex, hd⟩ := R.ob
  have hsz := R.size
  have hfew := R.few
  refine Calls.call_function_entry kind_sorted plain_sorted entry_sorted (args_sorted1 _) ?_
  unfold Builtin.«sorted»
  refine wpAny_bind (m := checkCount "sorted" 1 1 _) (wpAny_pure ?_)
  refine wpAny_bind (collect_set (A := A.in1) hh ⟨o, ho, hex.1, hd⟩ R.fits (by unfold scanBound; omega) R.tab.ris R.led fun s1 vs k1 hz g1 o1 pm => ?_)
  have hes : es.toList.map (·.2) = L.map fun q => Value.ref q.1 := by
    rw [R.rows, List.map_map]; rfl
  rw [hes] at pm
  -- the values are the rows' addresses, in some order
  have ord : ∀ vs : List Value, (∀ v ∈ vs, ∃ q ∈ L, v = Value.ref q.1) → ∃ L1 : List (Addr × List Str), vs = L1.map (fun q => Value.ref q.1) ∧ ∀ q ∈ L1, q ∈ L := by
    intro vs
    induction vs with
    | nil => intro _; exact ⟨[], rfl, fun q hq => by cases hq⟩
    | cons v vs ih =>
      intro hv
      obtain ⟨q, hq, rfl⟩ := hv v List.mem_cons_self
      obtain ⟨L1, e1, hs⟩ := ih fun u hu => hv u (List.mem_cons_of_mem _ hu)
      refine ⟨q :: L1, by rw [List.map_cons, e1], fun r hr => ?_⟩
      rcases List.mem_cons.mp hr with z | z
      · rw [z]; exact hq
      · exact hs r z
  obtain ⟨L1, e1, hs1⟩ := ord vs fun v hv => by
    obtain ⟨q, hq, e⟩ := List.mem_map.mp (pm.mem_iff.mp hv)
    exact ⟨q, hq, e.symm⟩
  have one : ∀ q ∈ L, ∀ r ∈ L, q.1 = r.1 → q = r := fun q hq r hr e => by
    have a1 := R.tup q hq
    have a2 := R.tup r hr
    rw [e] at a1
    exact Prod.ext e (a1.inj a2)
  have nL : L.Nodup := List.Pairwise.of_map (·.2) (fun _ _ hne e => hne (congrArg (·.2) e)) R.nd
  have n1 : L1.Nodup := by
    have nref : (L.map fun q => Value.ref q.1).Nodup := List.pairwise_map.mpr (List.Pairwise.imp_of_mem (fun {q r} hq hr hne e => by
      injection e with e
      exact hne (one q hq r hr e)) nL)
    rw [e1] at pm
    exact List.Pairwise.of_map (fun q => Value.ref q.1) (fun _ _ hne e => hne (by rw [e])) (pm.nodup_iff.mpr nref)
  have p1 : L1.Perm L := (List.perm_ext_iff_of_nodup n1 nL).mpr fun q => ⟨hs1 q, fun hq => by
    have hmm : Value.ref q.1 ∈ vs := pm.mem_iff.mpr (List.mem_map.mpr ⟨q, hq, rfl⟩)
    rw [e1] at hmm
    obtain ⟨r, hr, e⟩ := List.mem_map.mp hmm
    injection e with e
    rw [← one r (hs1 r hr) q hq e]
    exact hr⟩
  have hvl : vs.length ≤ 4 := by rw [pm.length_eq, List.length_map]; exact hfew
  have hsl : vs.length ≤ sizeLine := by rw [sizeLine_eq]; omega
  refine wpAny_bind (wpAny_newList ?_ hsl)
  obtain ⟨h2, hh2⟩ : ∃ h2 : Heap, h2 = s1.heap.push (seqObj "list" vs.toArray 0) := ⟨_, rfl⟩
  have hoL : h2.get? s1.heap.objs.size = some (seqObj "list" vs.toArray 0) := by rw [hh2]; exact Heap.get?_push_size _ rfl
  have tk : ∀ q ∈ L1, ∀ h', (∀ b o, s1.heap.get? b = some o → h'.get? b = some o) → ∃ as, Reads h' (.ref q.1) (encT q.2) as := fun q hq h' kk => reads_key (key_keep (R.tup q (hs1 q hq)) fun b u e => kk b u (k1 b u e))
  have enc : ∀ L0 : List (Addr × List Str), (∀ q ∈ L0, q ∈ L1) → ∀ h', (∀ b o, s1.heap.get? b = some o → h'.get? b = some o) → EachIs (fun (u : Value) (q : Addr × List Str) => u = .ref q.1) (L0.map fun q => Value.ref q.1) L0 ∧ EachIs (fun v (q : Addr × List Str) => ∃ as, Reads h' v (encT q.2) as) (L0.map fun q => Value.ref q.1) L0 := by
    intro L0
    induction L0 with
    | nil => intro _ _ _; exact ⟨.nil, .nil⟩
    | cons q L0 ih =>
      intro hq h' kk
      obtain ⟨i1, i2⟩ := ih (fun r hr => hq r (List.mem_cons_of_mem _ hr)) h' kk
      exact ⟨.cons rfl i1, .cons (tk q (hq q List.mem_cons_self) h' kk) i2⟩
  have old2 : ∀ b o, s1.heap.get? b = some o → (sortingHeap h2 s1.heap.objs.size vs).get? b = some o := fun b u e => by
    have hlt := Heap.lt_size e
    exact sortingHeap_old (Nat.ne_of_lt hlt) (by rw [hh2]; exact Heap.get?_push_of_some _ e)
  obtain ⟨er, er2⟩ := enc L1 (fun _ h => h) _ old2
  rw [← e1] at er er2
  have hal : AllAlike (L1.map fun q => encT q.2) := AllAlike.of fun a b => alikeT a.2 b.2
  have so := sortsAt_tups (prog := P) (w := w) (A := A.in1.in1) (s := { s1 with heap := sortingHeap h2 s1.heap.objs.size vs }) (each_map (R := fun v d => ∃ as, Reads (sortingHeap h2 s1.heap.objs.size vs) v d as) (fun q : Addr × List Str => encT q.2) er2) hal (fun d hd => by
    obtain ⟨q, _, rfl⟩ := List.mem_map.mp hd
    exact ⟨_, rfl⟩) (fun d hd => by
    obtain ⟨q, _, rfl⟩ := List.mem_map.mp hd
    have := depthT q.2
    have : A.in1.in1.units = A.units + 2 := rfl
    omega)
  have q2 := sortVals_data (h' := sortingHeap h2 s1.heap.objs.size vs) (R := fun (u : Value) (q : Addr × List Str) => u = .ref q.1) (enc := fun q : Addr × List Str => encT q.2) false er er2 hal
  show wpAny _ _ _ _ _ { s1 with heap := s1.heap.push (seqObj "list" vs.toArray 0) }
  rw [← hh2]
  refine wpAny_bind (wpAny_holding (wpAny_call_entry slot_list_sort ⟨_, hoL, rfl⟩ entry_list_sort (show wpAny (model P w) A.in1.in1 (Builtin.«list.sort» ⟨[.ref s1.heap.objs.size], []⟩) _ _ { s1 with heap := h2 } from ?_) (args_list_sort _)))
  refine list_sort_vals (s := { s1 with heap := h2 }) hoL so hsl ⟨_, rfl, wpAny_pure ⟨_, rfl, ?_⟩⟩
  generalize sortVals (dataKind (sortingHeap h2 s1.heap.objs.size vs) (L1.map fun q => encT q.2)) false vs vs = out at q2 ⊢
  have eo : ∀ {us : List Value} {L0 : List (Addr × List Str)}, EachIs (fun (u : Value) (q : Addr × List Str) => u = .ref q.1) us L0 → us = L0.map fun q => Value.ref q.1 := by
    intro us L0 h
    induction h with
    | nil => rfl
    | cons h _ ih => rw [h, ih]; rfl
  have pm2 : (L1.mergeSort (dataLe false fun q : Addr × List Str => encT q.2)).Perm L1 := List.mergeSort_perm _ _
  have hout := eo q2
  obtain ⟨c, hc⟩ := sortedHeap_at (vs := vs) (out := out.toArray) hoL
  refine hQ _ s1.heap.objs.size out c (L1.mergeSort (dataLe false fun q : Addr × List Str => encT q.2)) (fun b u e => ?_) g1 o1 hz hc hout (fun q hq => hs1 q (pm2.mem_iff.mp hq)) ?_ ?_
  · have q := k1 b u e
    have hlt := Heap.lt_size q
    show (sortedHeap h2 s1.heap.objs.size vs out.toArray).get? b = some u
    rw [sortedHeap_old (Nat.ne_of_lt hlt) (by rw [hh2, size_push']; exact Nat.lt_succ_of_lt hlt), hh2]
    exact Heap.get?_push_of_some _ q
  · have hmap : (L1.mergeSort (dataLe false fun q : Addr × List Str => encT q.2)).map (·.2) = (L1.map (·.2)).mergeSort (dataLe false encT) := List.map_mergeSort (f := fun q : Addr × List Str => q.2) (s := dataLe false encT) fun a _ b _ => rfl
    rw [hmap]
    have nd1 : (L1.map (·.2)).Nodup := (p1.map (·.2)).nodup_iff.mpr R.nd
    exact srtT_uniq nd1 fun k => by rw [hm k, (p1.map (·.2)).mem_iff]
  · rw [hout, List.length_map, pm2.length_eq, ← List.length_map (f := fun q : Addr × List Str => Value.ref q.1), ← e1]
    exact hsl
end
end AL
set_option Elab.async false
set_option linter.all false
set_option autoImplicit false
set_option maxRecDepth 100000
set_option maxHeartbeats 4000000
namespace AL
open PySem PySem.Spec PyProof.Rows L2
def SmAt (P : Program) (w : World) (a : Addr) (ks : List (Addr × List Str)) (h : Heap) : Prop :=
  ∃ (L : List (Addr × List Str)) (es : Array (Int × Value)) (ep : Nat) (t : SetTable), (∃ o, h.get? a = some o ∧ o.ExactSet ∧ o.data = .set es ep t) ∧ (es.toList = L.map fun p => (hk (strKind P w) p.2, Value.ref p.1)) ∧ TabOk t (L.map fun p => hk (strKind P w) p.2) ∧
    (L.map (·.2)).Nodup ∧ (w.params.followText "set-order" = true ∨ t.led = true) ∧ t.mask = 7 ∧ L.length ≤ 4 ∧ HasM ks ks.length L
def SmO (P : Program) (w : World) (a : Addr) (ks : List (Addr × List Str)) : HO := .ext (SmAt P w a ks)
theorem smO_ok {P : Program} {w : World} {H : Hp} {h : Heap} {a : Addr} {ks L : List (Addr × List Str)} {es : Array (Int × Value)} {ep : Nat} {t : SetTable} (R : SetM (strKind P w) h a L es ep t) (g : HasM ks ks.length L) : ObjOk P w H h a (SmO P w a ks) := by
  obtain ⟨o, ho, r⟩ := R.ob
  exact ⟨⟨L, es, ep, t, ⟨o, ho, r⟩, R.rows, R.tab, R.nd, R.led, R.m7, R.few, g⟩, ⟨o, ho⟩, fun h1 h2 ⟨L', es', ep', t', ⟨o', ho', r'⟩, q⟩ k => ⟨L', es', ep', t', ⟨o', k o' ho', r'⟩, q⟩⟩
theorem items_strs {P : Program} {w : World} : ∀ {k : List Str} {us : List Value}, Vals (k.map V.str) us → ItemsAre (strKind P w) k us
  | [], _, .nil => .nil
  | n :: k, _, .cons r t => by
    obtain ⟨tk, rfl⟩ := r
    exact .cons (is_txt n tk) (items_strs t)
theorem refs_valsT : ∀ {ks : List (Addr × List Str)} {us : List Value}, Vals (ks.map fun p => V.ref p.1) us → us = ks.map fun p => Value.ref p.1
  | [], _, .nil => rfl
  | p :: ks, _, .cons r t => by
    cases r
    rw [refs_valsT t]; rfl
theorem vals_refsT : ∀ ks : List (Addr × List Str), Vals (ks.map fun p => V.ref p.1) (ks.map fun p => Value.ref p.1)
  | [] => .nil
  | p :: ks => .cons rfl (vals_refsT ks)
section
variable {X : Cx}
theorem isT_of {pins : List (Addr × Obj)} {σ : L2.St} {H : Hp} {s : Shared} {b : Addr} {k : List Str} (I : Inv X pins σ H s) (h : SqT X.K H b (k.map V.str)) : IsTupleKey (strKind X.prog X.w) s.heap k b := by
  obtain ⟨its, r, ⟨o, ho, hc, n, hd⟩, _⟩ := I.tuple h
  exact ⟨o, its.toArray, n, ho, hc, hd, by simpa using items_strs r⟩
def rSetT (K : PySem.W.Frag) (P : Program) (w : World) : List V → Hp → VK → Prop := fun xs H Q => ∃ (l : Addr) (ks : List (Addr × List Str)), xs = [V.ref l] ∧ SqL K H l (ks.map fun p => V.ref p.1) ∧ (∀ p ∈ ks, SqT K H p.1 (p.2.map V.str)) ∧ ks.length ≤ 4 ∧ ∀ a, H a = none → Q (.ref a) (upd H a (SmO P w a ks))
theorem cr_setT (hc : X.calm = true) (hu : X.A.units + 130 < cLine) : CallR X (.type "set") (rSetT X.K X.prog X.w) := by
  intro pins s σ H xs us Q I r h
  obtain ⟨l, ks, rfl, hl, hks, hf, q⟩ := h
  rw [Vals.ref1 r]
  obtain ⟨its, rv, pl, hz⟩ := I.list hl
  have hn : H s.heap.objs.size = none := I.hok.fresh (Nat.le_refl _)
  refine call_sm (P := X.prog) (w := X.w) plain_str ks (I.ok.hd hc) pl.isList (by simpa using refs_valsT rv) (fun p hp => isT_of I (hks p hp)) hf (by omega) fun h' tk L es ep t R g k => ?_
  exact ⟨.ref s.heap.objs.size, upd H s.heap.objs.size (SmO X.prog X.w s.heap.objs.size ks), I.laid (t' := tk) k (Nat.le_refl _) (smO_ok R g), rfl, q _ hn⟩
def rSrtT (K : PySem.W.Frag) (P : Program) (w : World) : List V → Hp → VK → Prop := fun vs H Q => ∃ (a : Addr) (ks : List (Addr × List Str)), vs = [V.ref a] ∧ H a = some (SmO P w a ks) ∧ (∀ p ∈ ks, SqT K H p.1 (p.2.map V.str)) ∧
  ∀ (p : Addr) (L2 : List (Addr × List Str)), H p = none → (∀ q ∈ L2, q ∈ ks) → L2.map (·.2) = srtT (ks.map (·.2)) → Q (.ref p) (upd H p (.lst (L2.map fun q => V.ref q.1)))
theorem cr_srtT (hc : X.calm = true) (hu : X.A.units + 130 < cLine) : CallR X (.builtin "sorted") (rSrtT X.K X.prog X.w) := by
  intro pins s σ H vs us Q I r h
  obtain ⟨a, ks, rfl, ha, hks, q⟩ := h
  obtain ⟨L, es, ep, t, h1, h2, h3, h4, h5, h6, h7, g⟩ : SmAt X.prog X.w a ks s.heap := (I.hok a _ ha).1
  have inks : ∀ q ∈ L, q ∈ ks := fun q hq => List.mem_of_mem_take (g.sub q hq)
  have R : SetM (strKind X.prog X.w) s.heap a L es ep t := ⟨h1, h2, h3, h4, fun p hp => isT_of I (hks p (inks p hp)), h5, h6, h7⟩
  rw [Vals.ref1 r]
  refine sorted_sm (T := ks.map (·.2)) R (fun k => ⟨fun hm => ?_, fun hm => ?_⟩) (I.ok.hd hc) hu fun s' p out c L2 k g1 o1 hp hg hout hin hkey hlen => ?_
  · obtain ⟨p, hp, rfl⟩ := List.mem_map.mp hm
    exact g.all p (by rw [List.take_length]; exact hp)
  · obtain ⟨p, hp, rfl⟩ := List.mem_map.mp hm
    exact List.mem_map.mpr ⟨p, inks p hp, rfl⟩
  · have hn : H p = none := I.hok.fresh hp
    have hv : Vals (L2.map fun q => V.ref q.1) out := by rw [hout]; exact vals_refsT L2
    have hl2 : (L2.map fun q => V.ref q.1).length ≤ sizeLine := by rw [hv.length]; exact hlen
    have J : Inv X pins σ (upd H p (.lst (L2.map fun q => V.ref q.1))) { s with heap := s'.heap, gens := s'.gens, drawn := s'.drawn, toks := s'.toks } :=
      I.call (ch := []) (Un.laid k hp hn) (I.hok.laid k hp ⟨hl2, out, c, hv, hg⟩) (by rw [g1]; exact I.bare) (fun _ z => nomatch z)
    have e : s' = { s with heap := s'.heap, gens := s'.gens, drawn := s'.drawn, toks := s'.toks } := by
      cases s'
      cases s
      cases o1
      rfl
    rw [e]
    exact ⟨.ref p, _, J, rfl, q p L2 hn (fun q hq => inks q (hin q hq)) hkey⟩
end
def txtsT : List Pv → Option (List (List Str))
  | [] => some []
  | .tup ys :: r => match strsOf ys, txtsT r with
    | some k, some ks => some (k :: ks)
    | _, _ => none
  | _ => none
def tupT (k : List Str) : Pv := .tup (k.map Pv.str)
theorem txtsT_map : ∀ T : List (List Str), txtsT (T.map tupT) = some T
  | [] => rfl
  | k :: T => by
    show (match strsOf (k.map Pv.str), txtsT (T.map tupT) with | some k, some ks => some (k :: ks) | _, _ => none) = _
    rw [strsOf_map, txtsT_map T]
theorem txts_rep {K : PySem.W.Frag} {mg : Str → Option Value} {U : Hp} {μ : List Addr} : ∀ {ps : List Pv} {ws : List V} {T : List (List Str)}, RepVs K mg U μ ps ws → txtsT ps = some T → ∃ ks : List (Addr × List Str), ws = ks.map (fun p => V.ref p.1) ∧ ks.map (·.2) = T ∧ ∀ p ∈ ks, U p.1 = some (.tup (p.2.map V.str))
  | _, _, T, .nil, h => by
    cases h
    exact ⟨[], rfl, rfl, fun p hp => by cases hp⟩
  | _, _, T, .cons (p := p) h t, e => by
    cases p with
    | tup ys =>
      cases e1 : strsOf ys with
      | none => simp [txtsT, e1] at e
      | some k =>
        cases e2 : txtsT _ with
        | none => rw [txtsT, e1, e2] at e; cases e
        | some T' =>
          rw [txtsT, e1, e2] at e
          cases e
          obtain ⟨ks, rfl, hk, hU⟩ := txts_rep t e2
          cases h with
          | @tup a xs _ hu hr =>
            have hx := strs_rep hr e1
            subst hx
            refine ⟨(a, k) :: ks, rfl, by rw [List.map_cons, hk], fun p hp => ?_⟩
            rcases List.mem_cons.mp hp with rfl | hp
            · exact hu
            · exact hU p hp
    | _ => simp [txtsT] at e
theorem rep_txts {K : PySem.W.Frag} {mg : Str → Option Value} {U : Hp} {μ : List Addr} : ∀ {L : List (Addr × List Str)}, (∀ p ∈ L, U p.1 = some (.tup (p.2.map V.str))) → RepVs K mg U μ ((L.map (·.2)).map tupT) (L.map fun p => V.ref p.1)
  | [], _ => .nil
  | p :: L, h => .cons (.tup (h p List.mem_cons_self) (rep_strs p.2)) (rep_txts fun q hq => h q (List.mem_cons_of_mem _ hq))
noncomputable def fSortSetT (f : FE) : FE := fun sl cs => (f sl cs).bind fun x cs1 => match asL cs1 x with
  | some xs => match txtsT xs with
    | some T => guard_ (decide (T.length ≤ 4)) (.ok (.lst ((srtT T).map tupT)) cs1)
    | none => .bad
  | none => .bad
@[simp] theorem ap_sortSetT {f : FE} {sl : Sl} {cs : Cells} : fSortSetT f sl cs = (f sl cs).bind fun x cs1 => match asL cs1 x with
  | some xs => match txtsT xs with
    | some T => guard_ (decide (T.length ≤ 4)) (.ok (.lst ((srtT T).map tupT)) cs1)
    | none => .bad
  | none => .bad := rfl
theorem b_sortSetT {X : Cx} {W : WE} {f : FE} {e : Expr} {p p2 pos pos2 : Pos} (hcalm : X.calm = true) (hu : X.A.units + 130 < cLine) (hms : X.mg "sorted" = none) (hmt : X.mg "set" = none) (ha : PE X e (rdE X.K X.mg W f)) (hgs : Gl X "sorted" := by rfl) (hgt : Gl X "set" := by rfl)
    (hvs : bootBuiltins "sorted" = some (.builtin "sorted") := by decide +kernel) (hvt : bootBuiltins "set" = some (.type "set") := by decide +kernel)
    (hs : starEach [e] X.env = (false, eval e X.env) :: starEach [] X.env := by rfl) (hpl : (backTo pos2 (starEach [] X.env)).any (·.1) = false := by rfl)
    (na : starEach [.Call (.Name "set" p2) [e] [] pos2] X.env = (false, eval (.Call (.Name "set" p2) [e] [] pos2) X.env) :: starEach [] X.env := by rfl) (hpl2 : (backTo pos (starEach [] X.env)).any (·.1) = false := by rfl) :
    PE X (.Call (.Name "sorted" p) [.Call (.Name "set" p2) [e] [] pos2] [] pos) (rdE X.K X.mg W (fSortSetT f)) :=
  PE.le (pe_callB (cr_srtT hcalm hu) hgs hms hvs (pa_cons (pe_callTy (cr_setT hcalm hu) hgt hmt hvt (a_cons ha a_nil hs) (by decide) (by decide) hs hpl) pa_nil na) (by decide) (by decide) na hpl2) fun σ H Q q => by
  obtain ⟨sl, cs, μ, U, r0, rs, q⟩ := q
  refine ⟨sl, cs, μ, U, r0, rs, ?_⟩
  unfold fSortSetT at q
  show Out _ _ _ _ _ _ _ ((f sl cs).bind fun v cs1 => (Res.ok [] cs1).bind fun vs cs2 => .ok (v :: vs) cs2) _
  cases hf : f sl cs with
  | bad => rw [hf] at q; exact q.elim
  | exn c fs cs1 => rw [hf] at q; exact q
  | ok v cs1 =>
    rw [hf] at q
    simp only [Res.bind_ok] at q ⊢
    intro w U1 H1 μ1 g1 r1 p1
    have q := Out.later g1 q
    cases p1 with
    | cons h1 h2 =>
      cases h2
      cases ex : asL cs1 v with
      | none => rw [ex] at q; exact q.elim
      | some xs =>
        rw [ex] at q
        cases es : txtsT xs with
        | none => simp only [es] at q; exact q.elim
        | some T =>
          simp only [es] at q
          obtain ⟨hz, q⟩ := out_guard q
          obtain ⟨a, ws, rfl, s, t⟩ := asL_ok r1 h1 ex
          obtain ⟨ks, hw, hT, hU⟩ := txts_rep t es
          subst hw
          have hlen : ks.length ≤ 4 := by
            have := of_decide_eq_true hz
            rw [← hT, List.length_map] at this
            exact this
          refine ⟨a, ks, rfl, s, fun p hp => .of (r1.vh _ _ (hU p hp)), hlen, fun b hb => ?_⟩
          obtain ⟨r2, g2⟩ := r1.hidden (o := SmO X.prog X.w b ks) hb
          refine ⟨b, ks, rfl, upd_same, fun p hp => .of (r2.vh _ _ (hU p hp)), fun pp L2 hp hin hkey => ?_⟩
          have rep := rep_txts (K := X.K) (mg := X.mg) (U := U1) (μ := μ1) (L := L2) fun p hp => hU p (hin p hp)
          rw [hkey, hT] at rep
          exact out_lst r2 rep (Out.later g2 q) pp hp
end AL
set_option Elab.async false
set_option linter.all false
set_option autoImplicit false
set_option maxRecDepth 100000
set_option maxHeartbeats 4000000
namespace Lw
open PySem PySem.Spec PyProof.Rows L2 AL
theorem sc_BadCount : FnScope ["self", "what", "count"] ["self", "what", "count"] (defScope st_BadCount) := ⟨rfl, rfl, rfl, by decide +kernel, rfl, by decide +kernel, by decide +kernel⟩
theorem sc_NoName : FnScope ["self", "name"] ["self", "name"] (defScope st_NoName) := ⟨rfl, rfl, rfl, by decide +kernel, rfl, by decide +kernel, by decide +kernel⟩
theorem sc_Twice : FnScope ["self", "name"] ["self", "name"] (defScope st_Twice) := ⟨rfl, rfl, rfl, by decide +kernel, rfl, by decide +kernel, by decide +kernel⟩
theorem sc_NoNumber : FnScope ["self", "name"] ["self", "name"] (defScope st_NoNumber) := ⟨rfl, rfl, rfl, by decide +kernel, rfl, by decide +kernel, by decide +kernel⟩
theorem sc_NoPart : FnScope ["self", "name"] ["self", "name"] (defScope st_NoPart) := ⟨rfl, rfl, rfl, by decide +kernel, rfl, by decide +kernel, by decide +kernel⟩
theorem sc_law_state : FnScope ["_law_cell"] ["_law_cell"] (defScope st_law_state) := ⟨rfl, rfl, rfl, by decide +kernel, rfl, by decide +kernel, by decide +kernel⟩
theorem sc_law_digit : FnScope ["_law_state_here", "_law_base", "_law_found_here", "_law_more"] ["_law_state_here", "_law_base"] (defScope st_law_digit) := ⟨rfl, rfl, rfl, by decide +kernel, rfl, by decide +kernel, by decide +kernel⟩
theorem sc_law_name : FnScope ["_law_s", "_law_taken", "_law_some", "_law_kind", "_law_stem", "_law_k", "_law_found_here", "_law_n"] ["_law_s", "_law_taken"] (defScope st_law_name) := ⟨rfl, rfl, rfl, by decide +kernel, rfl, by decide +kernel, by decide +kernel⟩
theorem sc_law_names : FnScope ["_law_s", "_law_many", "_law_found_here", "_law_k"] ["_law_s", "_law_many"] (defScope st_law_names) := ⟨rfl, rfl, rfl, by decide +kernel, rfl, by decide +kernel, by decide +kernel⟩
theorem sc_law_terms : FnScope ["_law_s", "_law_names_here", "_law_found_here", "_law_k", "_law_some", "_law_j"] ["_law_s", "_law_names_here"] (defScope st_law_terms) := ⟨rfl, rfl, rfl, by decide +kernel, rfl, by decide +kernel, by decide +kernel⟩
theorem sc_law_sorted : FnScope ["_law_terms_here", "_law_known", "_law_found_here", "_law_many", "_law_some", "_law_number"] ["_law_terms_here"] (defScope st_law_sorted) := ⟨rfl, rfl, rfl, by decide +kernel, rfl, by decide +kernel, by decide +kernel⟩
theorem sc_law_due : FnScope ["_law_names_here", "_law_terms_here", "_law_degree", "_law_name_here", "_law_most", "_law_number", "_law_some"] ["_law_names_here", "_law_terms_here", "_law_degree"] (defScope st_law_due) := ⟨rfl, rfl, rfl, by decide +kernel, rfl, by decide +kernel, by decide +kernel⟩
theorem sc_asked_degree : FnScope ["names", "degree"] ["names", "degree"] (defScope st_asked_degree) := ⟨rfl, rfl, rfl, by decide +kernel, rfl, by decide +kernel, by decide +kernel⟩
theorem sc_Program_names : FnScope ["self"] ["self"] (defScope st_Program_names) := ⟨rfl, rfl, rfl, by decide +kernel, rfl, by decide +kernel, by decide +kernel⟩
theorem sc_asked_names_of : FnScope ["program", "form", "number", "names", "name"] ["program", "form"] (defScope st_asked_names_of) := ⟨rfl, rfl, rfl, by decide +kernel, rfl, by decide +kernel, by decide +kernel⟩
theorem sc_products : FnScope ["names", "found", "k", "name", "other"] ["names"] (defScope st_products) := ⟨rfl, rfl, rfl, by decide +kernel, rfl, by decide +kernel, by decide +kernel⟩
theorem sc_columns : FnScope ["names", "degree", "found", "name"] ["names", "degree"] (defScope st_columns) := ⟨rfl, rfl, rfl, by decide +kernel, rfl, by decide +kernel, by decide +kernel⟩
theorem sc_Form_degree : FnScope ["self"] ["self"] (defScope st_Form_degree) := ⟨rfl, rfl, rfl, by decide +kernel, rfl, by decide +kernel, by decide +kernel⟩
theorem sc_row_of : FnScope ["program", "form", "degree", "found", "number", "names"] ["program", "form", "degree"] (defScope st_row_of) := ⟨rfl, rfl, rfl, by decide +kernel, rfl, by decide +kernel, by decide +kernel⟩
theorem sc_law_found : FnScope ["_law_program", "_law_form", "_law_degree", "_law_found_here", "e"] ["_law_program", "_law_form", "_law_degree"] (defScope st_law_found) := ⟨rfl, rfl, rfl, by decide +kernel, rfl, by decide +kernel, by decide +kernel⟩
theorem sc_is_name : FnScope ["text", "sign"] ["text"] (defScope st_is_name) := ⟨rfl, rfl, rfl, by decide +kernel, rfl, by decide +kernel, by decide +kernel⟩
theorem sc_asked_names : FnScope ["texts", "text"] ["texts"] (defScope st_asked_names) := ⟨rfl, rfl, rfl, by decide +kernel, rfl, by decide +kernel, by decide +kernel⟩
theorem sc_asked_once : FnScope ["names", "seen", "name"] ["names"] (defScope st_asked_once) := ⟨rfl, rfl, rfl, by decide +kernel, rfl, by decide +kernel, by decide +kernel⟩
theorem sc_asked_some : FnScope ["what", "names", "most"] ["what", "names", "most"] (defScope st_asked_some) := ⟨rfl, rfl, rfl, by decide +kernel, rfl, by decide +kernel, by decide +kernel⟩
theorem sc_measured : FnScope ["body", "size", "most", "left", "thing", "deep", "statement", "inside"] ["body"] (defScope st_measured) := ⟨rfl, rfl, rfl, by decide +kernel, rfl, by decide +kernel, by decide +kernel⟩
theorem sc_asked_sizes : FnScope ["bodies", "sizes", "size", "many", "deep", "body"] ["bodies"] (defScope st_asked_sizes) := ⟨rfl, rfl, rfl, by decide +kernel, rfl, by decide +kernel, by decide +kernel⟩
theorem sc_names_in : FnScope ["statement", "found", "number", "names"] ["statement"] (defScope st_names_in) := ⟨rfl, rfl, rfl, by decide +kernel, rfl, by decide +kernel, by decide +kernel⟩
theorem sc_all_within : FnScope ["body", "found", "statement", "inside"] ["body"] (defScope st_all_within) := ⟨rfl, rfl, rfl, by decide +kernel, rfl, by decide +kernel, by decide +kernel⟩
theorem sc_Program_statements : FnScope ["self", "found", "name", "body"] ["self"] (defScope st_Program_statements) := ⟨rfl, rfl, rfl, by decide +kernel, rfl, by decide +kernel, by decide +kernel⟩
theorem sc_Program___init__ : FnScope ["self", "names", "parts", "known", "statement", "name", "body"] ["self", "names", "parts"] (defScope st_Program___init__) := ⟨rfl, rfl, rfl, by decide +kernel, rfl, by decide +kernel, by decide +kernel⟩
theorem sc_in_order : FnScope ["names"] ["names"] (defScope st_in_order) := ⟨rfl, rfl, rfl, by decide +kernel, rfl, by decide +kernel, by decide +kernel⟩
theorem sc_Form___init__ : FnScope ["self", "terms", "sums", "number", "names", "key"] ["self", "terms"] (defScope st_Form___init__) := ⟨rfl, rfl, rfl, by decide +kernel, rfl, by decide +kernel, by decide +kernel⟩
theorem sc_Body___init__ : FnScope ["self", "statements"] ["self", "statements"] (defScope st_Body___init__) := ⟨rfl, rfl, rfl, by decide +kernel, rfl, by decide +kernel, by decide +kernel⟩
theorem sc_law : FnScope ["_law_script", "_law_cell", "_law_s", "_law_names_here", "_law_degree", "_law_terms_here", "_law_program", "_law_form", "_law_due_here"] ["_law_script"] (defScope st_law) := ⟨rfl, rfl, rfl, by decide +kernel, rfl, by decide +kernel, by decide +kernel⟩
def iso_Any : Iso := ⟨"Any", [("Form", false), ("Body", false), ("Program", false)], [("NoneType", false), ("bool", false), ("int", false), ("str", false), ("tuple", false), ("list", false)]⟩
def iso_Put : Iso := ⟨"Put", [("Form", false), ("Body", false), ("Program", false)], [("NoneType", false), ("bool", false), ("int", false), ("str", false), ("tuple", false), ("list", false)]⟩
def iso_Call : Iso := ⟨"Call", [("Form", false), ("Body", false), ("Program", false)], [("NoneType", false), ("bool", false), ("int", false), ("str", false), ("tuple", false), ("list", false)]⟩
section
variable {P : Program} {w : World} {K : PySem.W.Frag} {mg : Str → Option Value} {base : Heap}
noncomputable def body_law_state : FS := (sSeq (sAsg 0 (fCall mAbs (fCons (fVar 0) fNil)))
    (sRet (fLstC (fCons (f2 oMul (fVar 0) (fCall mIntA (fCons (f2 oGe (fVar 0) (f2 oPow (fCon (.int 10)) (fCon (.int 18)))) fNil))) (fCons (f2 oAdd (f2 oMod (fCall mIntA (fCons (fVar 0) fNil)) (fCon (.int 2147483629))) (fCon (.int 7))) (fCons (f2 oMod (fCall mIntA (fCons (fVar 0) fNil)) (fCon (.int 2147483587))) fNil))))))
noncomputable def m_law_state : FN := shut true (fnSem 1 1 body_law_state)
noncomputable def body_law_digit : FS := (sSeq (sIf (fTst (f2 oGt (f2 oIx (fVar 0) (fCon (.int 0))) (fCon (.int 0)))) (sSeq (sAsg 2 (f2 oMod (fCall mIntA (fCons (f2 oIx (fVar 0) (fCon (.int 0))) fNil)) (fVar 1)))
    (sSeq (sPutIx (fVar 0) (fCon (.int 0)) (f2 oFdiv (f2 oIx (fVar 0) (fCon (.int 0))) (fVar 1)))
    (sRet (fVar 2)))) sPass)
    (sSeq (sAsg 3 (f2 oMul (f2 oIx (fVar 0) (fCon (.int 1))) (f2 oAdd (f2 oFdiv (f2 oIx (fVar 0) (fCon (.int 1))) (fCon (.int 1009))) (fCon (.int 69621)))))
    (sSeq (sPutIx (fVar 0) (fCon (.int 1)) (f2 oAdd (f2 oMod (fCall mIntA (fCons (f2 oAdd (fVar 3) (f2 oIx (fVar 0) (fCon (.int 2)))) fNil)) (fCon (.int 2147483629))) (fCon (.int 7))))
    (sRet (f2 oMod (fCall mIntA (fCons (f2 oFdiv (f2 oIx (fVar 0) (fCon (.int 1))) (fCon (.int 97))) fNil)) (fVar 1))))))
noncomputable def m_law_digit : FN := fnSem 2 4 body_law_digit
noncomputable def body_law_name_1 : FS := (sAsg 4 (f2 oAdd (fVar 4) (f2 oIx (fVar 2) (fCall m_law_digit (fCons (fVar 0) (fCons (fCon (.int 36)) fNil))))))
noncomputable def body_law_name_2 : FS := (sSeq (sAsg 7 (f2 oAdd (fVar 7) (fCon (.int 1))))
    (sAsg 6 (f2 oAdd (fVar 4) (fCall mStr (fCons (fVar 7) fNil)))))
noncomputable def body_law_name : FS := (sSeq (sAsg 2 (fCon (.str (S [97, 98, 99, 100, 101, 102, 103, 104, 105, 106, 107, 108, 109, 110, 111, 112, 113, 114, 115, 116, 117, 118, 119, 120, 121, 122, 48, 49, 50, 51, 52, 53, 54, 55, 56, 57]))))
    (sSeq (sAsg 3 (fCall m_law_digit (fCons (fVar 0) (fCons (fCon (.int 7)) fNil))))
    (sSeq (sAsg 4 (f2 oIx (fVar 2) (fCall m_law_digit (fCons (fVar 0) (fCons (fCon (.int 26)) fNil)))))
    (sSeq (sFor (gN 5) (iRange1 (fCall m_law_digit (fCons (fVar 0) (fCons (fCon (.int 4)) fNil)))) body_law_name_1)
    (sSeq (sIf (fTst (f2 oEqA (fVar 3) (fCon (.int 6)))) (sAsg 4 (f2 oIx (fLst (fCons (fCon (.str (S [112, 117, 116]))) (fCons (fCon (.str (S [97, 110, 121]))) (fCons (fCon (.str (S [111, 114]))) (fCons (fCon (.str (S [101, 105, 116, 104, 101, 114]))) (fCons (fCon (.str (S [114, 111, 117, 110, 100, 115]))) (fCons (fCon (.str (S [99, 97, 108, 108]))) (fCons (fCon (.str (S [109, 97, 114, 107]))) (fCons (fCon (.str (S [110, 97, 109, 101, 115]))) (fCons (fCon (.str (S [112, 97, 114, 116]))) (fCons (fCon (.str (S [110, 111, 110, 101]))) fNil))))))))))) (fCall m_law_digit (fCons (fVar 0) (fCons (fCon (.int 10)) fNil))))) sPass)
    (sSeq (sAsg 6 (fVar 4))
    (sSeq (sAsg 7 (fCon (.int 0)))
    (sSeq (sWhile (fTst (f2 oIn (fVar 6) (fVar 1))) body_law_name_2)
    (sRet (fVar 6))))))))))
noncomputable def m_law_name : FN := fnSem 2 8 body_law_name
noncomputable def body_law_names_1 : FS := (sExpr (fMeth "list" mAppend (fVar 2) (fCons (fCall m_law_name (fCons (fVar 0) (fCons (fVar 2) fNil))) fNil)))
noncomputable def body_law_names : FS := (sSeq (sAsg 2 (fLstC fNil))
    (sSeq (sFor (gN 3) (iRange1 (fVar 1)) body_law_names_1)
    (sSeq (sFrz 2)
    (sRet (fVar 2)))))
noncomputable def m_law_names : FN := shut false (fnSem 2 4 body_law_names)
noncomputable def body_law_terms_1 : FS := (sSeq (sAsg 4 (fLcC (iRange1 (fCall m_law_digit (fCons (fVar 0) (fCons (fCon (.int 3)) fNil)))) (gN 5) fYes (f2 oIx (fVar 1) (fCall m_law_digit (fCons (fVar 0) (fCons (fCall mLen (fCons (fVar 1) fNil)) fNil)))) [5]))
    (sSeq (sIf (fAnd (fTst (f2 oEqA (fCall m_law_digit (fCons (fVar 0) (fCons (fCon (.int 6)) fNil))) (fCon (.int 0)))) (fTst (f2 oNeA (fVar 4) (fLst fNil)))) (sPutIx (fVar 4) (fCall m_law_digit (fCons (fVar 0) (fCons (fCall mLen (fCons (fVar 4) fNil)) fNil))) (f2 oIx (fLst (fCons (fCon (.str (S [122, 122, 122, 122, 122, 122, 122, 49]))) (fCons (fCon (.str (S [122, 122, 122, 122, 122, 122, 122, 50]))) (fCons (fCon (.str (S [122, 122, 122, 122, 122, 122, 57, 57]))) fNil)))) (fCall m_law_digit (fCons (fVar 0) (fCons (fCon (.int 3)) fNil))))) sPass)
    (sSeq (sFrz 4)
    (sExpr (fMeth "list" mAppend (fVar 2) (fCons (fTup (fCons (f2 oAdd (fCon (.int 1)) (fCall m_law_digit (fCons (fVar 0) (fCons (fCon (.int 3)) fNil)))) (fCons (fVar 4) fNil))) fNil))))))
noncomputable def body_law_terms : FS := (sSeq (sAsg 2 (fLstC fNil))
    (sSeq (sFor (gN 3) (iRange1 (fCall m_law_digit (fCons (fVar 0) (fCons (fCon (.int 5)) fNil)))) body_law_terms_1)
    (sSeq (sFrz 2)
    (sRet (fVar 2)))))
noncomputable def m_law_terms : FN := shut false (fnSem 2 6 body_law_terms)
noncomputable def body_law_sorted_1 : FS := (sIf (fTst (f2 oEqA (fCall mLen (fCons (fVar 4) fNil)) (fVar 3))) (sAsg 2 (f2 oAdd (fVar 2) (fCall mList (fCons (fVar 4) fNil)))) sPass)
noncomputable def body_law_sorted_2 : FS := (sFor (gN 4) (iAny (fVar 1)) body_law_sorted_1)
noncomputable def body_law_sorted : FS := (sSeq (sAsg 1 (fSortSetT (fLc (iAny (fVar 0)) (gT 2 (gsCons (gN 5) (gsCons (gN 4) gsNil))) fYes (fCall mTuple (fCons (fCall mSorted (fCons (fVar 4) fNil)) fNil)) [5, 4])))
    (sSeq (sAsg 2 (fLst fNil))
    (sSeq (sFor (gN 3) (iAny (fLst (fCons (fCon (.int 2)) (fCons (fCon (.int 1)) fNil)))) body_law_sorted_2)
    (sRet (fVar 2)))))
noncomputable def m_law_sorted : FN := fnSem 1 6 body_law_sorted
noncomputable def body_law_due_1 : FS := (sIf (fTst (f2 oNotIn (fVar 3) (fVar 0))) (sRet (fTup (fCons (fCon (.str (S [110, 111, 110, 117, 109, 98, 101, 114]))) (fCons (fVar 3) fNil)))) sPass)
noncomputable def body_law_due : FS := (sSeq (sIf (fAnd (fTst (f2 oEqA (fVar 2) (fCon (.int 2)))) (fTst (f2 oEqA (fCall mLen (fCons (fVar 0) fNil)) (fCon (.int 3))))) (sRet (fTup (fCons (fCon (.str (S [98, 97, 100, 99, 111, 117, 110, 116]))) (fCons (fCon (.str (S [110, 97, 109, 101, 115]))) (fCons (fCon (.int 3)) fNil))))) sPass)
    (sSeq (sFor (gN 3) (iAny (fCall m_law_sorted (fCons (fVar 1) fNil))) body_law_due_1)
    (sSeq (sAsg 4 (fCall mMaxL (fCons (f2 oAdd (fLst (fCons (fCon (.int 0)) fNil)) (fLc (iAny (fVar 1)) (gT 2 (gsCons (gN 5) (gsCons (gN 6) gsNil))) fYes (fCall mLen (fCons (fVar 6) fNil)) [5, 6])) fNil)))
    (sSeq (sIf (fTst (f2 oGt (fVar 4) (fVar 2))) (sRet (fTup (fCons (fCon (.str (S [98, 97, 100, 99, 111, 117, 110, 116]))) (fCons (fCon (.str (S [100, 101, 103, 114, 101, 101]))) (fCons (fVar 4) fNil))))) sPass)
    (sRet (fTup (fCons (fCon (.str (S [116, 111, 108, 100]))) (fCons (fCon (.bl true)) fNil))))))))
noncomputable def m_law_due : FN := fnSem 3 7 body_law_due
noncomputable def body_asked_degree : FS := (sIf (fAnd (fTst (f2 oEqA (fVar 1) (fCon (.int 2)))) (fTst (f2 oGt (fCall mLen (fCons (fVar 0) fNil)) (fCon (.int 2))))) (sRaise "BadCount" ["what", "count"] (fCons (fCon (.str (S [110, 97, 109, 101, 115]))) (fCons (fCall mLen (fCons (fVar 0) fNil)) fNil))) sPass)
noncomputable def m_asked_degree : FN := fnSem 2 2 body_asked_degree
noncomputable def body_Program_names : FS := (sRet (fCall mList (fCons (f1 (oAt ["Program"] "number_names") (fVar 0)) fNil)))
noncomputable def m_Program_names : FN := fnSem 1 1 body_Program_names
noncomputable def body_asked_names_of_1 : FS := (sIf (fTst (f2 oNotIn (fVar 4) (fMth "names" [("Program", m_Program_names)] (fVar 0) fNil))) (sRaise "NoNumber" ["name"] (fCons (fVar 4) fNil)) sPass)
noncomputable def body_asked_names_of_2 : FS := (sFor (gN 4) (iAny (fVar 3)) body_asked_names_of_1)
noncomputable def body_asked_names_of : FS := (sFor (gT 2 (gsCons (gN 2) (gsCons (gN 3) gsNil))) (iAny (f1 (oAt ["Form"] "terms") (fVar 1))) body_asked_names_of_2)
noncomputable def m_asked_names_of : FN := fnSem 2 5 body_asked_names_of
noncomputable def body_products_1 : FS := (sExpr (fMeth "list" mExtend (fVar 1) (fCons (fLc (iAny (fSlc (fVar 0) (fPart (fVar 2)) fNoPart)) (gN 4) fYes (fTup (fCons (fVar 3) (fCons (fVar 4) fNil))) [4]) fNil)))
noncomputable def body_products : FS := (sSeq (sAsg 1 (fLstC fNil))
    (sSeq (sFor (gT 2 (gsCons (gN 2) (gsCons (gN 3) gsNil))) (iEnumA (fVar 0)) body_products_1)
    (sSeq (sFrz 1)
    (sRet (fVar 1)))))
noncomputable def m_products : FN := shut false (fnSem 1 5 body_products)
noncomputable def body_columns : FS := (sSeq (sAsg 2 (f2 oAdd (fLst (fCons (fTup fNil) fNil)) (fLc (iAny (fVar 0)) (gN 3) fYes (fTup (fCons (fVar 3) fNil)) [3])))
    (sSeq (sIf (fTst (f2 oEqA (fVar 1) (fCon (.int 2)))) (sAsg 2 (f2 oAdd (fVar 2) (fCall m_products (fCons (fVar 0) fNil)))) sPass)
    (sRet (fVar 2))))
noncomputable def m_columns : FN := fnSem 2 4 body_columns
noncomputable def body_Form_degree : FS := (sSeq (sIf (fTst (f2 oEqA (fCall mLen (fCons (f1 (oAt ["Form"] "terms") (fVar 0)) fNil)) (fCon (.int 0)))) (sRet (fCon (.int 0))) sPass)
    (sRet (fCall mLen (fCons (f2 oIx (f2 oIx (f1 (oAt ["Form"] "terms") (fVar 0)) (fCon (.int 0))) (fCon (.int 1))) fNil))))
noncomputable def m_Form_degree : FN := fnSem 1 1 body_Form_degree
noncomputable def body_row_of_1 : FS := (AL.sDPut (fVar 3) (fVar 5) (fVar 4))
noncomputable def body_row_of : FS := (sSeq (sExpr (fCall m_asked_degree (fCons (fMth "names" [("Program", m_Program_names)] (fVar 0) fNil) (fCons (fVar 2) fNil))))
    (sSeq (sExpr (fCall m_asked_names_of (fCons (fVar 0) (fCons (fVar 1) fNil))))
    (sSeq (sIf (fTst (f2 oGt (fMth "degree" [("Form", m_Form_degree)] (fVar 1) fNil) (fVar 2))) (sRaise "BadCount" ["what", "count"] (fCons (fCon (.str (S [100, 101, 103, 114, 101, 101]))) (fCons (fMth "degree" [("Form", m_Form_degree)] (fVar 1) fNil) fNil))) sPass)
    (sSeq (sAsg 3 fDNewT)
    (sSeq (sFor (gT 2 (gsCons (gN 4) (gsCons (gN 5) gsNil))) (iAny (f1 (oAt ["Form"] "terms") (fVar 1))) body_row_of_1)
    (sSeq (sFrz 3)
    (sRet (fCall mTuple (fCons (fLc (iAny (fCall m_columns (fCons (fMth "names" [("Program", m_Program_names)] (fVar 0) fNil) (fCons (fVar 2) fNil)))) (gN 5) fYes (fDGet2 (fVar 3) (fCall mTuple (fCons (fCall mSortT (fCons (fVar 5) fNil)) fNil)) (fCon (.int 0))) [5]) fNil)))))))))
noncomputable def m_row_of : FN := shut false (fnSem 3 6 body_row_of)
noncomputable def body_law_found : FS := (sSeq (sAsg 3 (fCon .non))
    (sSeq (sTryM (sAsg 3 (fTup (fCons (fCon (.str (S [116, 111, 108, 100]))) (fCons (fCall mIsB (fCons (fCall m_row_of (fCons (fVar 0) (fCons (fVar 1) (fCons (fVar 2) fNil)))) (fCons (fCon (.ty "tuple")) fNil))) fNil)))) (⟨[("BadCount", true), ("NoName", false), ("Twice", false), ("NoNumber", false), ("NoPart", false)], some 4, fun c fs => (sAsg 3 (fTup (fCons (fCon (.str (S [98, 97, 100, 99, 111, 117, 110, 116]))) (fCons (fXf ["BadCount"] c fs 4 "what") (fCons (fXf ["BadCount"] c fs 4 "count") fNil)))))⟩ :: (⟨[("BadCount", false), ("NoName", false), ("Twice", false), ("NoNumber", true), ("NoPart", false)], some 4, fun c fs => (sSeq (sAsg 3 (fTup (fCons (fCon (.str (S [110, 111, 110, 117, 109, 98, 101, 114]))) (fCons (fXf ["NoName", "Twice", "NoNumber", "NoPart"] c fs 4 "name") fNil))))
    (sIf (fOr (fTru (fXis [("BadCount", false), ("NoName", true), ("Twice", false), ("NoNumber", false), ("NoPart", false)] c 4)) (fOr (fNot (fTru (fXis [("BadCount", true), ("NoName", true), ("Twice", true), ("NoNumber", true), ("NoPart", true)] c 4))) (fNot (fTru (fXis [("BadCount", true), ("NoName", true), ("Twice", true), ("NoNumber", true), ("NoPart", true)] c 4))))) (sAsg 3 (fTup (fCons (fCon (.str (S [115, 101, 118, 101, 114, 97, 108]))) fNil))) sPass))⟩ :: [])))
    (sRet (fVar 3))))
noncomputable def m_law_found : FN := fnSem 3 5 body_law_found
noncomputable def body_is_name : FS := (sSeq (sIf (fOr (fNot (fTst (fChain oLe oLe (fCon (.int 1)) (fCall mLen (fCons (fVar 0) fNil)) (fCon (.int 8))))) (fTst (f2 oNotIn (f2 oIx (fVar 0) (fCon (.int 0))) (fCon (.str (S [97, 98, 99, 100, 101, 102, 103, 104, 105, 106, 107, 108, 109, 110, 111, 112, 113, 114, 115, 116, 117, 118, 119, 120, 121, 122])))))) (sRet (fCon (.bl false))) sPass)
    (sRet (fCall mAll (fCons (fLc (iAny (fVar 0)) (gN 1) fYes (fOrV (f2 oIn (fVar 1) (fCon (.str (S [97, 98, 99, 100, 101, 102, 103, 104, 105, 106, 107, 108, 109, 110, 111, 112, 113, 114, 115, 116, 117, 118, 119, 120, 121, 122])))) (f2 oIn (fVar 1) (fCon (.str (S [48, 49, 50, 51, 52, 53, 54, 55, 56, 57]))))) [1]) fNil))))
noncomputable def m_is_name : FN := fnSem 1 2 body_is_name
noncomputable def body_asked_names_1 : FS := (sIf (fNot (fTru (fCall m_is_name (fCons (fVar 1) fNil)))) (sRaise "NoName" ["name"] (fCons (fVar 1) fNil)) sPass)
noncomputable def body_asked_names : FS := (sFor (gN 1) (iAny (fVar 0)) body_asked_names_1)
noncomputable def m_asked_names : FN := fnSem 1 2 body_asked_names
noncomputable def body_asked_once_1 : FS := (sSeq (sIf (fTst (f2 (oDIn false) (fVar 2) (fVar 1))) (sRaise "Twice" ["name"] (fCons (fVar 2) fNil)) sPass)
    (AL.sDPut (fVar 1) (fVar 2) (fCon (.bl true))))
noncomputable def body_asked_once : FS := (sSeq (sAsg 1 fDNewK)
    (sFor (gN 2) (iAny (fVar 0)) body_asked_once_1))
noncomputable def m_asked_once : FN := shut false (fnSem 1 3 body_asked_once)
noncomputable def body_asked_some : FS := (sSeq (sIf (fNot (fTst (fChain oLe oLe (fCon (.int 1)) (fCall mLen (fCons (fVar 1) fNil)) (fVar 2)))) (sRaise "BadCount" ["what", "count"] (fCons (fVar 0) (fCons (fCall mLen (fCons (fVar 1) fNil)) fNil))) sPass)
    (sSeq (sExpr (fCall m_asked_names (fCons (fVar 1) fNil)))
    (sExpr (fCall m_asked_once (fCons (fVar 1) fNil)))))
noncomputable def m_asked_some : FN := fnSem 3 3 body_asked_some
noncomputable def body_measured_1 : FS := (sExpr (fMeth "list" mExtend (fVar 3) (fCons (fLc (iAny (fMth "inner" [] (fVar 6) fNil)) (gN 7) fYes (fTup (fCons (fVar 7) (fCons (f2 oAdd (fVar 5) (fCon (.int 1))) fNil))) [7]) fNil)))
noncomputable def body_measured_2 : FS := (sSeq (sAsgG (gT 2 (gsCons (gN 4) (gsCons (gN 5) gsNil))) (fMeth0 "list" mPop0 (fVar 3)))
    (sSeq (sAsg 2 (fCall mMax2 (fCons (fVar 2) (fCons (fVar 5) fNil))))
    (sSeq (sAsg 1 (f2 oAdd (fVar 1) (fCall mLen (fCons (f1 (oAt ["Body"] "row") (fVar 4)) fNil))))
    (sFor (gN 6) (iAny (f1 (oAt ["Body"] "row") (fVar 4))) body_measured_1))))
noncomputable def body_measured : FS := (sSeq (sPar3 1 2 3 (fCons (fCon (.int 0)) (fCons (fCon (.int 1)) (fCons (fLstC (fCons (fTup (fCons (fVar 0) (fCons (fCon (.int 1)) fNil))) fNil)) fNil))))
    (sSeq (sWhile (fTst (f2 (oNil true) (fVar 3) (fLst fNil))) body_measured_2)
    (sRet (fTup (fCons (fVar 1) (fCons (fVar 2) fNil))))))
noncomputable def m_measured : FN := shut false (fnSem 1 8 body_measured)
noncomputable def body_asked_sizes_1 : FS := (sIf (fTst (f2 oGt (fVar 4) (fCon (.int 5)))) (sRaise "BadCount" ["what", "count"] (fCons (fCon (.str (S [100, 101, 112, 116, 104]))) (fCons (fVar 4) fNil))) sPass)
noncomputable def body_asked_sizes : FS := (sSeq (sAsg 1 (fLc (iAny (fVar 0)) (gN 5) fYes (fCall m_measured (fCons (fVar 5) fNil)) [5]))
    (sSeq (sAsg 2 (fCall mSum (fCons (fLc (iAny (fVar 1)) (gT 2 (gsCons (gN 3) (gsCons (gN 4) gsNil))) fYes (fVar 3) [3, 4]) fNil)))
    (sSeq (sIf (fTst (f2 oGt (fVar 2) (fCon (.int 20)))) (sRaise "BadCount" ["what", "count"] (fCons (fCon (.str (S [115, 116, 97, 116, 101, 109, 101, 110, 116, 115]))) (fCons (fVar 2) fNil))) sPass)
    (sFor (gT 2 (gsCons (gN 3) (gsCons (gN 4) gsNil))) (iAny (fVar 1)) body_asked_sizes_1))))
noncomputable def m_asked_sizes : FN := fnSem 1 6 body_asked_sizes
noncomputable def body_names_in_1 : FS := (sExpr (fMeth "list" mExtend (fVar 1) (fCons (fVar 3) fNil)))
noncomputable def body_names_in : FS := (sSeq (sIf (fTru (f1 (oIso [iso_Any]) (fVar 0))) (sRet (fLst (fCons (f1 (oAt [] "name") (fVar 0)) fNil))) sPass)
    (sSeq (sAsg 1 (fLstC fNil))
    (sSeq (sIf (fTru (f1 (oIso [iso_Put]) (fVar 0))) (sSeq (sExpr (fMeth "list" mAppend (fVar 1) (fCons (f1 (oAt [] "name") (fVar 0)) fNil)))
    (sFor (gT 2 (gsCons (gN 2) (gsCons (gN 3) gsNil))) (iAny (f1 (oAt ["Form"] "terms") (f1 (oAt [] "form") (fVar 0)))) body_names_in_1)) sPass)
    (sSeq (sFrz 1)
    (sRet (fVar 1))))))
noncomputable def m_names_in : FN := shut false (fnSem 1 4 body_names_in)
noncomputable def body_all_within_1 (r_all_within : FN) : FS := (sExpr (fMeth "list" mExtend (fVar 1) (fCons (fCall r_all_within (fCons (fVar 3) fNil)) fNil)))
noncomputable def body_all_within_2 (r_all_within : FN) : FS := (sSeq (sExpr (fMeth "list" mAppend (fVar 1) (fCons (fVar 2) fNil)))
    (sFor (gN 3) (iAny (fMth "inner" [] (fVar 2) fNil)) (body_all_within_1 r_all_within)))
noncomputable def body_all_within (r_all_within : FN) : FS := (sSeq (sAsg 1 (fLstC fNil))
    (sSeq (sFor (gN 2) (iAny (f1 (oAt ["Body"] "row") (fVar 0))) (body_all_within_2 r_all_within))
    (sSeq (sFrz 1)
    (sRet (fVar 1)))))
noncomputable def m_all_within : Nat → FN
  | 0 => fun _ _ => .bad
  | n + 1 => shut false (fnSem 1 4 (body_all_within (m_all_within n)))
noncomputable def body_Program_statements_1 : FS := (sExpr (fMeth "list" mExtend (fVar 1) (fCons (fCall (m_all_within 12) (fCons (fVar 3) fNil)) fNil)))
noncomputable def body_Program_statements : FS := (sSeq (sAsg 1 (fLstC fNil))
    (sSeq (sFor (gT 2 (gsCons (gN 2) (gsCons (gN 3) gsNil))) (iAny (f1 (oAt ["Program"] "bodies") (fVar 0))) body_Program_statements_1)
    (sSeq (sFrz 1)
    (sRet (fVar 1)))))
noncomputable def m_Program_statements : FN := shut false (fnSem 1 4 body_Program_statements)
noncomputable def body_Program___init___1 : FS := (sIf (fTst (f2 oNotIn (fVar 5) (f1 (oAt ["Program"] "number_names") (fVar 0)))) (sRaise "NoNumber" ["name"] (fCons (fVar 5) fNil)) sPass)
noncomputable def body_Program___init___2 : FS := (sSeq (sFor (gN 5) (iAny (fCall m_names_in (fCons (fVar 4) fNil))) body_Program___init___1)
    (sIf (fAnd (fTru (f1 (oIso [iso_Call]) (fVar 4))) (fTst (f2 oNotIn (f1 (oAt [] "part") (fVar 4)) (fVar 3)))) (sRaise "NoPart" ["name"] (fCons (f1 (oAt [] "part") (fVar 4)) fNil)) sPass))
noncomputable def body_Program___init__ : FS := (sSeq (sExpr (fCall m_asked_some (fCons (fCon (.str (S [110, 97, 109, 101, 115]))) (fCons (fCall mList (fCons (fVar 1) fNil)) (fCons (fCon (.int 3)) fNil)))))
    (sSeq (sExpr (fCall m_asked_some (fCons (fCon (.str (S [112, 97, 114, 116, 115]))) (fCons (fLc (iAny (fVar 2)) (gT 2 (gsCons (gN 5) (gsCons (gN 6) gsNil))) fYes (fVar 5) [5, 6]) (fCons (fCon (.int 4)) fNil)))))
    (sSeq (sExpr (fCall m_asked_sizes (fCons (fLc (iAny (fVar 2)) (gT 2 (gsCons (gN 5) (gsCons (gN 6) gsNil))) fYes (fVar 6) [5, 6]) fNil)))
    (sSeq (sAttr ["Program"] "number_names" (fVar 0) (fCall mTuple (fCons (fVar 1) fNil)))
    (sSeq (sAttr ["Program"] "bodies" (fVar 0) (fCall mTuple (fCons (fLc (iAny (fVar 2)) (gT 2 (gsCons (gN 5) (gsCons (gN 6) gsNil))) fYes (fTup (fCons (fVar 5) (fCons (fVar 6) fNil))) [5, 6]) fNil)))
    (sSeq (sAsg 3 (fLc (iAny (fVar 2)) (gT 2 (gsCons (gN 5) (gsCons (gN 6) gsNil))) fYes (fVar 5) [5, 6]))
    (sFor (gN 4) (iAny (fMth "statements" [("Program", m_Program_statements)] (fVar 0) fNil)) body_Program___init___2)))))))
noncomputable def m_Program___init__ : FN := fnSem 3 7 body_Program___init__
noncomputable def mk_Program : FN := shut false (mkRaw "Program" m_Program___init__)
noncomputable def body_in_order : FS := (sRet (fTup (fCons (f2 oSub (fCon (.int 0)) (fCall mLen (fCons (fVar 0) fNil))) (fCons (fVar 0) fNil))))
noncomputable def m_in_order : FN := fnSem 1 1 body_in_order
noncomputable def body_Form___init___1 : FS := (sSeq (sIf (fTst (f2 oGt (fCall mLen (fCons (fVar 4) fNil)) (fCon (.int 2)))) (sRaise "BadCount" ["what", "count"] (fCons (fCon (.str (S [110, 97, 109, 101, 115]))) (fCons (fCall mLen (fCons (fVar 4) fNil)) fNil))) sPass)
    (sSeq (sExpr (fCall m_asked_names (fCons (fVar 4) fNil)))
    (sSeq (sAsg 5 (fCall mTuple (fCons (fCall mSorted (fCons (fVar 4) fNil)) fNil)))
    (AL.sDPut (fVar 2) (fVar 5) (f2 oAdd (fDGet2 (fVar 2) (fVar 5) (fCon (.int 0))) (fVar 3))))))
noncomputable def body_Form___init__ : FS := (sSeq (sAsg 2 fDNewT)
    (sSeq (sFor (gT 2 (gsCons (gN 3) (gsCons (gN 4) gsNil))) (iAny (fVar 1)) body_Form___init___1)
    (sSeq (sFrz 2)
    (sAttr ["Form"] "terms" (fVar 0) (fCall mTuple (fCons (fLc (iAny (f1 (fun x cs => mSortK m_in_order [x] cs) (fCall mListT (fCons (fVar 2) fNil)))) (gN 5) (fTst (f2 oNeA (f2 oDGet (fVar 2) (fVar 5)) (fCon (.int 0)))) (fTup (fCons (f2 oDGet (fVar 2) (fVar 5)) (fCons (fVar 5) fNil))) [5]) fNil))))))
noncomputable def m_Form___init__ : FN := fnSem 2 6 body_Form___init__
noncomputable def mk_Form : FN := shut false (mkRaw "Form" m_Form___init__)
noncomputable def body_Body___init__ : FS := (sAttr ["Body"] "row" (fVar 0) (fCall mTuple (fCons (fVar 1) fNil)))
noncomputable def m_Body___init__ : FN := fnSem 2 2 body_Body___init__
noncomputable def mk_Body : FN := shut false (mkRaw "Body" m_Body___init__)
noncomputable def body_law_1 : FS := (sSeq (sAsg 2 (fCall m_law_state (fCons (fVar 1) fNil)))
    (sSeq (sAsg 3 (fCall m_law_names (fCons (fVar 2) (fCons (f2 oAdd (fCon (.int 1)) (fCall m_law_digit (fCons (fVar 2) (fCons (fCon (.int 3)) fNil)))) fNil))))
    (sSeq (sAsg 4 (f2 oAdd (fCon (.int 1)) (fCall m_law_digit (fCons (fVar 2) (fCons (fCon (.int 2)) fNil)))))
    (sSeq (sAsg 5 (fCall m_law_terms (fCons (fVar 2) (fCons (fVar 3) fNil))))
    (sSeq (sAsg 6 (fCall mk_Program (fCons (fVar 3) (fCons (fLst (fCons (fTup (fCons (fCon (.str (S [109, 97, 105, 110]))) (fCons (fCall mk_Body (fCons (fLst fNil) fNil)) fNil))) fNil)) fNil))))
    (sSeq (sAsg 7 (fCall mk_Form (fCons (fVar 5) fNil)))
    (sSeq (sAsg 8 (fCall m_law_due (fCons (fVar 3) (fCons (fVar 5) (fCons (fVar 4) fNil)))))
    (sIf (fOr (fTst (f2 oNeA (fCall m_law_found (fCons (fVar 6) (fCons (fVar 7) (fCons (fVar 4) fNil)))) (fVar 8))) (fTst (f2 oNeA (fCall m_law_found (fCons (fVar 6) (fCons (fVar 7) (fCons (fVar 4) fNil)))) (fVar 8)))) (sRet (fCon (.bl false))) sPass))))))))
noncomputable def body_law : FS := (sSeq (sFor (gN 1) (iAny (fSlc (f2 oAdd (fVar 0) (fLst (fCons (fCon (.int 0)) fNil))) fNoPart (fPart (fCon (.int 10))))) body_law_1)
    (sRet (fCon (.bl true))))
noncomputable def m_law : FN := fnSem 1 9 body_law
end
end Lw
set_option Elab.async false
set_option linter.all false
set_option autoImplicit false
set_option maxRecDepth 100000
set_option maxHeartbeats 4000000
namespace Lw
open PySem PySem.Spec PyProof.Rows L2 AL
section
variable {P : Program} {w : World} {K : PySem.W.Frag} {mg : Str → Option Value} {base : Heap}
theorem okI_BadCount {C f : Addr} {fd : FuncData} (T : OexC K C) (hno : ∀ q ∈ [(("what" : Str), 1), (("count" : Str), 2)], PySem.W.findIn K (.ref C) q.1 = some none) (F : Fun K "__init__" "BadCount.__init__" st_BadCount f fd) : FnOk P w K mg base (L2.CX P w) 1 f fd ["self", "what", "count"] (spXI C ["what", "count"]) :=
  xinit_ok T hno F sc_BadCount rfl rfl (by decide) fun cdv A outer s H E => (pss_cons (ps_ost (pe_var (i := 0) rfl (Or.inl rfl)) (pe_var (i := 1) rfl (Or.inl rfl))) (pss_cons (ps_ost (pe_var (i := 0) rfl (Or.inl rfl)) (pe_var (i := 2) rfl (Or.inl rfl))) pss_nil))
theorem okI_NoName {C f : Addr} {fd : FuncData} (T : OexC K C) (hno : ∀ q ∈ [(("name" : Str), 1)], PySem.W.findIn K (.ref C) q.1 = some none) (F : Fun K "__init__" "NoName.__init__" st_NoName f fd) : FnOk P w K mg base (L2.CX P w) 1 f fd ["self", "name"] (spXI C ["name"]) :=
  xinit_ok T hno F sc_NoName rfl rfl (by decide) fun cdv A outer s H E => (pss_cons (ps_ost (pe_var (i := 0) rfl (Or.inl rfl)) (pe_var (i := 1) rfl (Or.inl rfl))) pss_nil)
theorem okI_Twice {C f : Addr} {fd : FuncData} (T : OexC K C) (hno : ∀ q ∈ [(("name" : Str), 1)], PySem.W.findIn K (.ref C) q.1 = some none) (F : Fun K "__init__" "Twice.__init__" st_Twice f fd) : FnOk P w K mg base (L2.CX P w) 1 f fd ["self", "name"] (spXI C ["name"]) :=
  xinit_ok T hno F sc_Twice rfl rfl (by decide) fun cdv A outer s H E => (pss_cons (ps_ost (pe_var (i := 0) rfl (Or.inl rfl)) (pe_var (i := 1) rfl (Or.inl rfl))) pss_nil)
theorem okI_NoNumber {C f : Addr} {fd : FuncData} (T : OexC K C) (hno : ∀ q ∈ [(("name" : Str), 1)], PySem.W.findIn K (.ref C) q.1 = some none) (F : Fun K "__init__" "NoNumber.__init__" st_NoNumber f fd) : FnOk P w K mg base (L2.CX P w) 1 f fd ["self", "name"] (spXI C ["name"]) :=
  xinit_ok T hno F sc_NoNumber rfl rfl (by decide) fun cdv A outer s H E => (pss_cons (ps_ost (pe_var (i := 0) rfl (Or.inl rfl)) (pe_var (i := 1) rfl (Or.inl rfl))) pss_nil)
theorem okI_NoPart {C f : Addr} {fd : FuncData} (T : OexC K C) (hno : ∀ q ∈ [(("name" : Str), 1)], PySem.W.findIn K (.ref C) q.1 = some none) (F : Fun K "__init__" "NoPart.__init__" st_NoPart f fd) : FnOk P w K mg base (L2.CX P w) 1 f fd ["self", "name"] (spXI C ["name"]) :=
  xinit_ok T hno F sc_NoPart rfl rfl (by decide) fun cdv A outer s H E => (pss_cons (ps_ost (pe_var (i := 0) rfl (Or.inl rfl)) (pe_var (i := 1) rfl (Or.inl rfl))) pss_nil)
theorem ok_law_state {f : Addr} {fd : FuncData} (F : Fun K "_law_state" "_law_state" st_law_state f fd) (m_abs : mg "abs" = none) (m_int : mg "int" = none) : FnOk P w K mg base (L2.CX P w) (1) f fd ["_law_cell"] (spOf K mg 1 (shut true (fnSem 1 1 body_law_state))) :=
  fn_shut (fn_ok (k := 0) F sc_law_state fun cdv A outer s H E hr tk po => (ss_cons (s_asg sc_law_state.nd (b_callB call_abs ok_abs m_abs (by decide +kernel) (a_cons (b_var 0) a_nil)))
    (ss_one (s_ret (b_lstC (a_cons (b_bin op_mulG ok_mul (b_var 0) (b_callTy call_intA ok_intA m_int (by decide +kernel) (a_cons (b_cmp op_ge ok_cmpI (b_var 0) (b_bin op_pow ok_pow b_int b_int)) a_nil))) (a_cons (b_bin op_addA ok_add (b_bin op_modN ok_mod (b_callTy call_intA ok_intA m_int (by decide +kernel) (a_cons (b_var 0) a_nil)) b_int) b_int) (a_cons (b_bin op_modN ok_mod (b_callTy call_intA ok_intA m_int (by decide +kernel) (a_cons (b_var 0) a_nil)) b_int) a_nil))))))))
theorem ok_law_digit {f : Addr} {fd : FuncData} (F : Fun K "_law_digit" "_law_digit" st_law_digit f fd) (m_int : mg "int" = none) : FnOk P w K mg base (L2.CX P w) (1) f fd ["_law_state_here", "_law_base"] (spOf K mg 2 (fnSem 2 4 body_law_digit)) :=
  fn_ok (k := 0) F sc_law_digit fun cdv A outer s H E hr tk po => (ss_cons (s_if (t_cmp op_gt ok_cmpI (b_ix (b_var 0) b_int) b_int) (ss_cons (s_asg sc_law_digit.nd (b_bin op_modN ok_mod (b_callTy call_intA ok_intA m_int (by decide +kernel) (a_cons (b_ix (b_var 0) b_int) a_nil)) (b_var 1)))
    (ss_cons (s_putIx (b_bin op_fdivG ok_fdiv (b_ix (b_var 0) b_int) (b_var 1)) (b_var 0) b_int)
    (ss_one (s_ret (b_var 2))))) ss_nil)
    (ss_cons (s_asg sc_law_digit.nd (b_bin op_mulG ok_mul (b_ix (b_var 0) b_int) (b_bin op_addA ok_add (b_bin op_fdivG ok_fdiv (b_ix (b_var 0) b_int) b_int) b_int)))
    (ss_cons (s_putIx (b_bin op_addA ok_add (b_bin op_modN ok_mod (b_callTy call_intA ok_intA m_int (by decide +kernel) (a_cons (b_bin op_addA ok_add (b_var 3) (b_ix (b_var 0) b_int)) a_nil)) b_int) b_int) (b_var 0) b_int)
    (ss_one (s_ret (b_bin op_modN ok_mod (b_callTy call_intA ok_intA m_int (by decide +kernel) (a_cons (b_bin op_fdivG ok_fdiv (b_ix (b_var 0) b_int) b_int) a_nil)) (b_var 1)))))))
theorem ok_law_name {f : Addr} {fd : FuncData} (F : Fun K "_law_name" "_law_name" st_law_name f fd) (F_law_digit : FnB P w K mg base "_law_digit" 1 ["_law_state_here", "_law_base"] m_law_digit) (m_range : mg "range" = none) (m_str : mg "str" = none) : FnOk P w K mg base (L2.CX P w) (2) f fd ["_law_s", "_law_taken"] (spOf K mg 2 (fnSem 2 8 body_law_name)) :=
  fn_ok (k := 1) F sc_law_name fun cdv A outer s H E hr tk po => (ss_cons (s_asg sc_law_name.nd (b_strS rfl))
    (ss_cons (s_asg sc_law_name.nd (b_fn F_law_digit (hr.mono (by first | decide | omega)) tk (a_cons (b_var 0) (a_cons b_int a_nil)) (len_cons (len_cons len_nil))))
    (ss_cons (s_asg sc_law_name.nd (b_ix (b_var 2) (b_fn F_law_digit (hr.mono (by first | decide | omega)) tk (a_cons (b_var 0) (a_cons b_int a_nil)) (len_cons (len_cons len_nil)))))
    (ss_cons (s_for (vs := [5]) po rfl (i_range1 m_range (b_fn F_law_digit (hr.mono (by first | decide | omega)) tk (a_cons (b_var 0) (a_cons b_int a_nil)) (len_cons (len_cons len_nil)))) (g_name sc_law_name.nd) (ss_one (s_asg sc_law_name.nd (b_bin op_addA ok_add (b_var 4) (b_ix (b_var 2) (b_fn F_law_digit (hr.mono (by first | decide | omega)) tk (a_cons (b_var 0) (a_cons b_int a_nil)) (len_cons (len_cons len_nil))))))))
    (ss_cons (s_if (t_cmp (op_eqA hr.units) ok_eqA (b_var 3) b_int) (ss_one (s_asg sc_law_name.nd (b_ix (b_lst (a_cons (b_strS rfl) (a_cons (b_strS rfl) (a_cons (b_strS rfl) (a_cons (b_strS rfl) (a_cons (b_strS rfl) (a_cons (b_strS rfl) (a_cons (b_strS rfl) (a_cons (b_strS rfl) (a_cons (b_strS rfl) (a_cons (b_strS rfl) a_nil))))))))))) (b_fn F_law_digit (hr.mono (by first | decide | omega)) tk (a_cons (b_var 0) (a_cons b_int a_nil)) (len_cons (len_cons len_nil)))))) ss_nil)
    (ss_cons (s_asg sc_law_name.nd (b_var 4))
    (ss_cons (s_asg sc_law_name.nd b_int)
    (ss_cons (s_while po (t_cmp op_inA ok_in (b_var 6) (b_var 1)) (ss_cons (s_asg sc_law_name.nd (b_bin op_addA ok_add (b_var 7) b_int))
    (ss_one (s_asg sc_law_name.nd (b_bin op_addA ok_add (b_var 4) (b_callTy call_strA ok_str m_str (by decide +kernel) (a_cons (b_var 7) a_nil)))))))
    (ss_one (s_ret (b_var 6)))))))))))
theorem ok_law_names {f : Addr} {fd : FuncData} (F : Fun K "_law_names" "_law_names" st_law_names f fd) (F_law_name : FnB P w K mg base "_law_name" 2 ["_law_s", "_law_taken"] m_law_name) (m_range : mg "range" = none) : FnOk P w K mg base (L2.CX P w) (3) f fd ["_law_s", "_law_many"] (spOf K mg 2 (shut false (fnSem 2 4 body_law_names))) :=
  fn_shut (fn_ok (k := 2) F sc_law_names fun cdv A outer s H E hr tk po => (ss_cons (s_asg sc_law_names.nd (b_lstC a_nil))
    (ss_cons (s_for (vs := [3]) po rfl (i_range1 m_range (b_var 1)) (g_name sc_law_names.nd) (ss_one (s_expr (b_meth PySem.F.plainAttrs_list PySem.F.slot_list_append PySem.F.type_list_append mt_append ok_append (b_var 2) (a_cons (b_fn F_law_name (hr.mono (by first | decide | omega)) tk (a_cons (b_var 0) (a_cons (b_var 2) a_nil)) (len_cons (len_cons len_nil))) a_nil)))))
    (ss_frz 2 (ss_one (s_ret (b_var 2)))))))
theorem ok_law_terms {f : Addr} {fd : FuncData} (F : Fun K "_law_terms" "_law_terms" st_law_terms f fd) (F_law_digit : FnB P w K mg base "_law_digit" 1 ["_law_state_here", "_law_base"] m_law_digit) (m_range : mg "range" = none) (m_len : mg "len" = none) : FnOk P w K mg base (L2.CX P w) (2) f fd ["_law_s", "_law_names_here"] (spOf K mg 2 (shut false (fnSem 2 6 body_law_terms))) :=
  fn_shut (fn_ok (k := 1) F sc_law_terms fun cdv A outer s H E hr tk po => (ss_cons (s_asg sc_law_terms.nd (b_lstC a_nil))
    (ss_cons (s_for (vs := [3]) po rfl (i_range1 m_range (b_fn F_law_digit (hr.mono (by first | decide | omega)) tk (a_cons (b_var 0) (a_cons b_int a_nil)) (len_cons (len_cons len_nil)))) (g_name sc_law_terms.nd) (ss_cons (s_asgLcC (i := 4) rfl sc_law_terms.nd (sw_true rfl rfl rfl (by decide +kernel)) (blkOk_by (own := [("_law_j", 5)]) (by kernel_rfl)) (i_range1 m_range (b_fn F_law_digit (hr.mono (by first | decide | omega)) tk (a_cons (b_var 0) (a_cons b_int a_nil)) (len_cons (len_cons len_nil)))) (fun _ _ _ _ _ => (g_name sc_law_terms.nd)) (fun _ _ _ _ _ => ts_nil) (fun _ _ _ _ _ => (b_ix (b_var 1) (b_fn F_law_digit (hr.mono (by first | decide | omega)) takesB (a_cons (b_var 0) (a_cons (b_callB call_len ok_len m_len (by decide +kernel) (a_cons (b_var 1) a_nil)) a_nil)) (len_cons (len_cons len_nil))))))
    (ss_cons (s_if (PW.pt (w_and (t_cmp (op_eqA hr.units) ok_eqA (b_fn F_law_digit (hr.mono (by first | decide | omega)) tk (a_cons (b_var 0) (a_cons b_int a_nil)) (len_cons (len_cons len_nil))) b_int) (w_and1 (t_cmp (op_neA hr.units) ok_neA (b_var 4) (b_lst a_nil))))) (ss_one (s_putIx (b_ix (b_lst (a_cons (b_strS rfl) (a_cons (b_strS rfl) (a_cons (b_strS rfl) a_nil)))) (b_fn F_law_digit (hr.mono (by first | decide | omega)) tk (a_cons (b_var 0) (a_cons b_int a_nil)) (len_cons (len_cons len_nil)))) (b_var 4) (b_fn F_law_digit (hr.mono (by first | decide | omega)) tk (a_cons (b_var 0) (a_cons (b_callB call_len ok_len m_len (by decide +kernel) (a_cons (b_var 4) a_nil)) a_nil)) (len_cons (len_cons len_nil))))) ss_nil)
    (ss_frz 4 (ss_one (s_expr (b_meth PySem.F.plainAttrs_list PySem.F.slot_list_append PySem.F.type_list_append mt_append ok_append (b_var 2) (a_cons (b_tup (a_cons (b_bin op_addA ok_add b_int (b_fn F_law_digit (hr.mono (by first | decide | omega)) tk (a_cons (b_var 0) (a_cons b_int a_nil)) (len_cons (len_cons len_nil)))) (a_cons (b_var 4) a_nil))) a_nil))))))))
    (ss_frz 2 (ss_one (s_ret (b_var 2)))))))
theorem ok_law_sorted {f : Addr} {fd : FuncData} (F : Fun K "_law_sorted" "_law_sorted" st_law_sorted f fd) (m_sorted : mg "sorted" = none) (m_set : mg "set" = none) (m_tuple : mg "tuple" = none) (m_len : mg "len" = none) (m_list : mg "list" = none) : FnOk P w K mg base (L2.CX P w) (1) f fd ["_law_terms_here"] (spOf K mg 1 (fnSem 1 6 body_law_sorted)) :=
  fn_ok (k := 0) F sc_law_sorted fun cdv A outer s H E hr tk po => (ss_cons (s_asg sc_law_sorted.nd (b_sortSetT rfl hr.u130 m_sorted m_set (b_lc rfl sc_law_sorted.nd (blkOk_by (own := [("_law_number", 5), ("_law_some", 4)]) (by kernel_rfl)) (i_any (b_var 0)) (fun _ _ _ _ _ => (g_tup rfl (gs_cons (g_name sc_law_sorted.nd) (gs_cons (g_name sc_law_sorted.nd) gs_nil)))) (fun _ _ _ _ _ => ts_nil) (fun _ _ _ _ _ => (b_callTy call_tuple_of ok_tuple m_tuple (by decide +kernel) (a_cons (b_callB (cr_sortD hr.u130) ok_sorted m_sorted (by decide +kernel) (a_cons (b_var 4) a_nil)) a_nil))))))
    (ss_cons (s_asg sc_law_sorted.nd (b_lst a_nil))
    (ss_cons (s_for (vs := [3]) po rfl (i_any (b_lst (a_cons b_int (a_cons b_int a_nil)))) (g_name sc_law_sorted.nd) (ss_one (s_for (vs := [4]) po rfl (i_any (b_var 1)) (g_name sc_law_sorted.nd) (ss_one (s_if (t_cmp (op_eqA hr.units) ok_eqA (b_callB call_len ok_len m_len (by decide +kernel) (a_cons (b_var 4) a_nil)) (b_var 3)) (ss_one (s_asg sc_law_sorted.nd (b_bin op_addA ok_add (b_var 2) (b_callTy call_list_of ok_list m_list (by decide +kernel) (a_cons (b_var 4) a_nil))))) ss_nil)))))
    (ss_one (s_ret (b_var 2))))))
theorem ok_law_due {f : Addr} {fd : FuncData} (F : Fun K "_law_due" "_law_due" st_law_due f fd) (F_law_sorted : FnB P w K mg base "_law_sorted" 1 ["_law_terms_here"] m_law_sorted) (m_max : mg "max" = none) (m_len : mg "len" = none) : FnOk P w K mg base (L2.CX P w) (2) f fd ["_law_names_here", "_law_terms_here", "_law_degree"] (spOf K mg 3 (fnSem 3 7 body_law_due)) :=
  fn_ok (k := 1) F sc_law_due fun cdv A outer s H E hr tk po => (ss_cons (s_if (PW.pt (w_and (t_cmp (op_eqA hr.units) ok_eqA (b_var 2) b_int) (w_and1 (t_cmp (op_eqA hr.units) ok_eqA (b_callB call_len ok_len m_len (by decide +kernel) (a_cons (b_var 0) a_nil)) b_int)))) (ss_one (s_ret (b_tup (a_cons (b_strS rfl) (a_cons (b_strS rfl) (a_cons b_int a_nil)))))) ss_nil)
    (ss_cons (s_for (vs := [3]) po rfl (i_any (b_fn F_law_sorted (hr.mono (by first | decide | omega)) tk (a_cons (b_var 1) a_nil) (len_cons len_nil))) (g_name sc_law_due.nd) (ss_one (s_if (t_cmp op_notInA ok_in (b_var 3) (b_var 0)) (ss_one (s_ret (b_tup (a_cons (b_strS rfl) (a_cons (b_var 3) a_nil))))) ss_nil)))
    (ss_cons (s_asg sc_law_due.nd (b_callB (cr_max rfl) ok_maxL m_max (by decide +kernel) (a_cons (b_bin op_addA ok_add (b_lst (a_cons b_int a_nil)) (b_lc rfl sc_law_due.nd (blkOk_by (own := [("_law_number", 5), ("_law_some", 6)]) (by kernel_rfl)) (i_any (b_var 1)) (fun _ _ _ _ _ => (g_tup rfl (gs_cons (g_name sc_law_due.nd) (gs_cons (g_name sc_law_due.nd) gs_nil)))) (fun _ _ _ _ _ => ts_nil) (fun _ _ _ _ _ => (b_callB call_len ok_len m_len (by decide +kernel) (a_cons (b_var 6) a_nil))))) a_nil)))
    (ss_cons (s_if (t_cmp op_gt ok_cmpI (b_var 4) (b_var 2)) (ss_one (s_ret (b_tup (a_cons (b_strS rfl) (a_cons (b_strS rfl) (a_cons (b_var 4) a_nil)))))) ss_nil)
    (ss_one (s_ret (b_tup (a_cons (b_strS rfl) (a_cons b_bl a_nil)))))))))
theorem ok_asked_degree {f : Addr} {fd : FuncData} (F : Fun K "asked_degree" "asked_degree" st_asked_degree f fd) (R_BadCount : XMk P w K mg base "BadCount" ["self", "what", "count"] ["what", "count"]) (m_len : mg "len" = none) : FnOk P w K mg base (L2.CX P w) (3) f fd ["names", "degree"] (spOf K mg 2 (fnSem 2 2 body_asked_degree)) :=
  fn_ok (k := 2) F sc_asked_degree fun cdv A outer s H E hr tk po => (ss_one (s_if (PW.pt (w_and (t_cmp (op_eqA hr.units) ok_eqA (b_var 1) b_int) (w_and1 (t_cmp op_gt ok_cmpI (b_callB call_len ok_len m_len (by decide +kernel) (a_cons (b_var 0) a_nil)) b_int)))) (ss_one (s_raiseB rfl R_BadCount (hr.mono (by first | decide | omega)) tk (a_cons (b_strS rfl) (a_cons (b_callB call_len ok_len m_len (by decide +kernel) (a_cons (b_var 0) a_nil)) a_nil)))) ss_nil))
theorem ok_Program_names {f : Addr} {fd : FuncData} (F : Fun K "names" "Program.names" st_Program_names f fd) (A_number_names : AtT K mg "number_names" ["Program"]) (m_list : mg "list" = none) : FnOk P w K mg base (L2.CX P w) (1) f fd ["self"] (spOf K mg 1 (fnSem 1 1 body_Program_names)) :=
  fn_ok (k := 0) F sc_Program_names fun cdv A outer s H E hr tk po => (ss_one (s_ret (b_callTy call_list_of ok_list m_list (by decide +kernel) (a_cons (b_at A_number_names (b_var 0)) a_nil))))
theorem ok_asked_names_of {f : Addr} {fd : FuncData} (F : Fun K "asked_names_of" "asked_names_of" st_asked_names_of f fd) (M_names : MTab P w K mg base 1 0 "names" [("Program", m_Program_names)]) (A_terms : AtT K mg "terms" ["Form"]) (R_NoNumber : XMk P w K mg base "NoNumber" ["self", "name"] ["name"]) : FnOk P w K mg base (L2.CX P w) (3) f fd ["program", "form"] (spOf K mg 2 (fnSem 2 5 body_asked_names_of)) :=
  fn_ok (k := 2) F sc_asked_names_of fun cdv A outer s H E hr tk po => (ss_one (s_for (vs := [2, 3]) po rfl (i_any (b_at A_terms (b_var 1))) (g_tup rfl (gs_cons (g_name sc_asked_names_of.nd) (gs_cons (g_name sc_asked_names_of.nd) gs_nil))) (ss_one (s_for (vs := [4]) po rfl (i_any (b_var 3)) (g_name sc_asked_names_of.nd) (ss_one (s_if (t_cmp op_notInA ok_in (b_var 4) (b_mth0 M_names (hr.mono (by first | decide | omega)) tk (b_var 0))) (ss_one (s_raiseB rfl R_NoNumber (hr.mono (by first | decide | omega)) tk (a_cons (b_var 4) a_nil))) ss_nil))))))
theorem ok_products {f : Addr} {fd : FuncData} (F : Fun K "products" "products" st_products f fd) (m_enumerate : mg "enumerate" = none) : FnOk P w K mg base (L2.CX P w) (1) f fd ["names"] (spOf K mg 1 (shut false (fnSem 1 5 body_products))) :=
  fn_shut (fn_ok (k := 0) F sc_products fun cdv A outer s H E hr tk po => (ss_cons (s_asg sc_products.nd (b_lstC a_nil))
    (ss_cons (s_for (vs := [2, 3]) po rfl (i_enumA m_enumerate (b_var 0)) (g_tup rfl (gs_cons (g_name sc_products.nd) (gs_cons (g_name sc_products.nd) gs_nil))) (ss_one (s_expr (b_meth PySem.F.plainAttrs_list PySem.F.slot_list_extend PySem.F.type_list_extend mt_extA ok_extend (b_var 1) (a_cons (b_lc rfl sc_products.nd (blkOk_by (own := [("other", 4)]) (by kernel_rfl)) (i_any (b_slc (b_var 0) (o_some (b_var 2)) o_none)) (fun _ _ _ _ _ => (g_name sc_products.nd)) (fun _ _ _ _ _ => ts_nil) (fun _ _ _ _ _ => (b_tup (a_cons (b_var 3) (a_cons (b_var 4) a_nil))))) a_nil)))))
    (ss_frz 1 (ss_one (s_ret (b_var 1)))))))
theorem ok_columns {f : Addr} {fd : FuncData} (F : Fun K "columns" "columns" st_columns f fd) (F_products : FnB P w K mg base "products" 1 ["names"] m_products) : FnOk P w K mg base (L2.CX P w) (2) f fd ["names", "degree"] (spOf K mg 2 (fnSem 2 4 body_columns)) :=
  fn_ok (k := 1) F sc_columns fun cdv A outer s H E hr tk po => (ss_cons (s_asg sc_columns.nd (b_bin op_addA ok_add (b_lst (a_cons (b_tup a_nil) a_nil)) (b_lc rfl sc_columns.nd (blkOk_by (own := [("name", 3)]) (by kernel_rfl)) (i_any (b_var 0)) (fun _ _ _ _ _ => (g_name sc_columns.nd)) (fun _ _ _ _ _ => ts_nil) (fun _ _ _ _ _ => (b_tup (a_cons (b_var 3) a_nil))))))
    (ss_cons (s_if (t_cmp (op_eqA hr.units) ok_eqA (b_var 1) b_int) (ss_one (s_asg sc_columns.nd (b_bin op_addA ok_add (b_var 2) (b_fn F_products (hr.mono (by first | decide | omega)) tk (a_cons (b_var 0) a_nil) (len_cons len_nil))))) ss_nil)
    (ss_one (s_ret (b_var 2)))))
theorem ok_Form_degree {f : Addr} {fd : FuncData} (F : Fun K "degree" "Form.degree" st_Form_degree f fd) (A_terms : AtT K mg "terms" ["Form"]) (m_len : mg "len" = none) : FnOk P w K mg base (L2.CX P w) (1) f fd ["self"] (spOf K mg 1 (fnSem 1 1 body_Form_degree)) :=
  fn_ok (k := 0) F sc_Form_degree fun cdv A outer s H E hr tk po => (ss_cons (s_if (t_cmp (op_eqA hr.units) ok_eqA (b_callB call_len ok_len m_len (by decide +kernel) (a_cons (b_at A_terms (b_var 0)) a_nil)) b_int) (ss_one (s_ret b_int)) ss_nil)
    (ss_one (s_ret (b_callB call_len ok_len m_len (by decide +kernel) (a_cons (b_ix (b_ix (b_at A_terms (b_var 0)) b_int) b_int) a_nil)))))
theorem ok_row_of {f : Addr} {fd : FuncData} (F : Fun K "row_of" "row_of" st_row_of f fd) (F_asked_degree : FnB P w K mg base "asked_degree" 3 ["names", "degree"] m_asked_degree) (F_asked_names_of : FnB P w K mg base "asked_names_of" 3 ["program", "form"] m_asked_names_of) (F_columns : FnB P w K mg base "columns" 2 ["names", "degree"] m_columns) (M_names : MTab P w K mg base 1 0 "names" [("Program", m_Program_names)]) (M_degree : MTab P w K mg base 1 0 "degree" [("Form", m_Form_degree)]) (A_terms : AtT K mg "terms" ["Form"]) (R_BadCount : XMk P w K mg base "BadCount" ["self", "what", "count"] ["what", "count"]) (m_tuple : mg "tuple" = none) (m_sorted : mg "sorted" = none) : FnOk P w K mg base (L2.CX P w) (4) f fd ["program", "form", "degree"] (spOf K mg 3 (shut false (fnSem 3 6 body_row_of))) :=
  fn_shut (fn_ok (k := 3) F sc_row_of fun cdv A outer s H E hr tk po => (ss_cons (s_expr (b_fn F_asked_degree (hr.mono (by first | decide | omega)) tk (a_cons (b_mth0 M_names (hr.mono (by first | decide | omega)) tk (b_var 0)) (a_cons (b_var 2) a_nil)) (len_cons (len_cons len_nil))))
    (ss_cons (s_expr (b_fn F_asked_names_of (hr.mono (by first | decide | omega)) tk (a_cons (b_var 0) (a_cons (b_var 1) a_nil)) (len_cons (len_cons len_nil))))
    (ss_cons (s_if (t_cmp op_gt ok_cmpI (b_mth0 M_degree (hr.mono (by first | decide | omega)) tk (b_var 1)) (b_var 2)) (ss_one (s_raiseB rfl R_BadCount (hr.mono (by first | decide | omega)) tk (a_cons (b_strS rfl) (a_cons (b_mth0 M_degree (hr.mono (by first | decide | omega)) tk (b_var 1)) a_nil)))) ss_nil)
    (ss_cons (s_asg sc_row_of.nd b_dnewT)
    (ss_cons (s_for (vs := [4, 5]) po rfl (i_any (b_at A_terms (b_var 1))) (g_tup rfl (gs_cons (g_name sc_row_of.nd) (gs_cons (g_name sc_row_of.nd) gs_nil))) (ss_one (s_dput hr.u1 (b_var 3) (b_var 5) (b_var 4))))
    (ss_frz 3 (ss_one (s_ret (b_callTy call_tuple_of ok_tuple m_tuple (by decide +kernel) (a_cons (b_lc rfl sc_row_of.nd (blkOk_by (own := [("names", 5)]) (by kernel_rfl)) (i_any (b_fn F_columns (hr.mono (by first | decide | omega)) tk (a_cons (b_mth0 M_names (hr.mono (by first | decide | omega)) tk (b_var 0)) (a_cons (b_var 2) a_nil)) (len_cons (len_cons len_nil)))) (fun _ _ _ _ _ => (g_name sc_row_of.nd)) (fun _ _ _ _ _ => ts_nil) (fun _ _ _ _ _ => (b_dget2 hr.u1 (b_var 3) (b_callTy call_tuple_of ok_tuple m_tuple (by decide +kernel) (a_cons (b_callB (cr_sortT hr.u130) ok_sortT m_sorted (by decide +kernel) (a_cons (b_var 5) a_nil)) a_nil)) b_int))) a_nil)))))))))))
theorem ok_law_found {f : Addr} {fd : FuncData} (F : Fun K "_law_found" "_law_found" st_law_found f fd) (F_row_of : FnB P w K mg base "row_of" 4 ["program", "form", "degree"] m_row_of) (Y_BadCount : XTry K mg "BadCount" [("BadCount", true), ("NoName", false), ("Twice", false), ("NoNumber", false), ("NoPart", false)]) (Y_NoNumber : XTry K mg "NoNumber" [("BadCount", false), ("NoName", false), ("Twice", false), ("NoNumber", true), ("NoPart", false)]) (x_what : XfT K mg "what" ["BadCount"]) (x_count : XfT K mg "count" ["BadCount"]) (x_name : XfT K mg "name" ["NoName", "Twice", "NoNumber", "NoPart"]) (y_NoName : XIs K mg "NoName" [("BadCount", false), ("NoName", true), ("Twice", false), ("NoNumber", false), ("NoPart", false)]) (y_LineError : XIs K mg "LineError" [("BadCount", true), ("NoName", true), ("Twice", true), ("NoNumber", true), ("NoPart", true)]) (y_ValueError : XIsB K mg "ValueError" "ValueError" [("BadCount", true), ("NoName", true), ("Twice", true), ("NoNumber", true), ("NoPart", true)]) (m_isinstance : mg "isinstance" = none) (m_tuple : mg "tuple" = none) : FnOk P w K mg base (L2.CX P w) (5) f fd ["_law_program", "_law_form", "_law_degree"] (spOf K mg 3 (fnSem 3 5 body_law_found)) :=
  fn_ok (k := 4) F sc_law_found fun cdv A outer s H E hr tk po => (ss_cons (s_asg sc_law_found.nd b_non)
    (ss_cons (s_tryM sc_law_found.nd tk (fun W pn xe tk po => (ss_one (s_asg sc_law_found.nd (b_tup (a_cons (b_strS rfl) (a_cons (b_callB call_isi ok_isB m_isinstance (by decide +kernel) (a_cons (b_fn F_row_of (hr.mono (by first | decide | omega)) tk (a_cons (b_var 0) (a_cons (b_var 1) (a_cons (b_var 2) a_nil))) (len_cons (len_cons (len_cons len_nil)))) (a_cons (b_ty m_tuple (by decide +kernel)) a_nil))) a_nil)))))) (TryOk.as Y_BadCount (fun a oe C d pn hz hf c fs hc => (ss_one (s_asg sc_law_found.nd (b_tup (a_cons (b_strS rfl) (a_cons (b_xf x_what hz hf hc) (a_cons (b_xf x_count hz hf hc) a_nil))))))) (TryOk.as Y_NoNumber (fun a oe C d pn hz hf c fs hc => (ss_cons (s_asg sc_law_found.nd (b_tup (a_cons (b_strS rfl) (a_cons (b_xf x_name hz hf hc) a_nil))))
    (ss_one (s_if (PW.pt (w_or (t_val (b_xisO y_NoName hz hf hc m_isinstance)) (w_or (t_not (t_val (b_xisO y_LineError hz hf hc m_isinstance))) (w_or1 (t_not (t_val (b_xisB y_ValueError hz hf hc m_isinstance))))))) (ss_one (s_asg sc_law_found.nd (b_tup (a_cons (b_strS rfl) a_nil)))) ss_nil)))) TryOk.nil)))
    (ss_one (s_ret (b_var 3)))))
theorem ok_is_name {f : Addr} {fd : FuncData} (F : Fun K "is_name" "is_name" st_is_name f fd) {u_LETTERS : Value} (g_LETTERS : mg "LETTERS" = some u_LETTERS) (r_LETTERS : RelV (.str (S [97, 98, 99, 100, 101, 102, 103, 104, 105, 106, 107, 108, 109, 110, 111, 112, 113, 114, 115, 116, 117, 118, 119, 120, 121, 122])) u_LETTERS) {u_LONGEST : Value} (g_LONGEST : mg "LONGEST" = some u_LONGEST) (r_LONGEST : RelV (.int 8) u_LONGEST) {u_FIGURES : Value} (g_FIGURES : mg "FIGURES" = some u_FIGURES) (r_FIGURES : RelV (.str (S [48, 49, 50, 51, 52, 53, 54, 55, 56, 57])) u_FIGURES) (m_all : mg "all" = none) (m_len : mg "len" = none) : FnOk P w K mg base (L2.CX P w) (1) f fd ["text"] (spOf K mg 1 (fnSem 1 2 body_is_name)) :=
  fn_ok (k := 0) F sc_is_name fun cdv A outer s H E hr tk po => (ss_cons (s_if (PW.pt (w_or (t_not (t_chain op_le op_le ok_cmpI ok_cmpI b_int (b_callB call_len ok_len m_len (by decide +kernel) (a_cons (b_var 0) a_nil)) (b_globI g_LONGEST r_LONGEST))) (w_or1 (t_cmp op_notInA ok_in (b_ix (b_var 0) b_int) (b_globT g_LETTERS r_LETTERS))))) (ss_one (s_ret b_bl)) ss_nil)
    (ss_one (s_ret (b_callB (cr_all rfl) ok_all m_all (by decide +kernel) (a_cons (b_lc rfl sc_is_name.nd (blkOk_by (own := [("sign", 1)]) (by kernel_rfl)) (i_any (b_var 0)) (fun _ _ _ _ _ => (g_name sc_is_name.nd)) (fun _ _ _ _ _ => ts_nil) (fun _ _ _ _ _ => (b_or (b_cmp op_inA ok_in (b_var 1) (b_globT g_LETTERS r_LETTERS)) (b_one (b_cmp op_inA ok_in (b_var 1) (b_globT g_FIGURES r_FIGURES)))))) a_nil)))))
theorem ok_asked_names {f : Addr} {fd : FuncData} (F : Fun K "asked_names" "asked_names" st_asked_names f fd) (F_is_name : FnB P w K mg base "is_name" 1 ["text"] m_is_name) (R_NoName : XMk P w K mg base "NoName" ["self", "name"] ["name"]) : FnOk P w K mg base (L2.CX P w) (3) f fd ["texts"] (spOf K mg 1 (fnSem 1 2 body_asked_names)) :=
  fn_ok (k := 2) F sc_asked_names fun cdv A outer s H E hr tk po => (ss_one (s_for (vs := [1]) po rfl (i_any (b_var 0)) (g_name sc_asked_names.nd) (ss_one (s_if (t_not (t_val (b_fn F_is_name (hr.mono (by first | decide | omega)) tk (a_cons (b_var 1) a_nil) (len_cons len_nil)))) (ss_one (s_raiseB rfl R_NoName (hr.mono (by first | decide | omega)) tk (a_cons (b_var 1) a_nil))) ss_nil))))
theorem ok_asked_once {f : Addr} {fd : FuncData} (F : Fun K "asked_once" "asked_once" st_asked_once f fd) (R_Twice : XMk P w K mg base "Twice" ["self", "name"] ["name"]) : FnOk P w K mg base (L2.CX P w) (3) f fd ["names"] (spOf K mg 1 (shut false (fnSem 1 3 body_asked_once))) :=
  fn_shut (fn_ok (k := 2) F sc_asked_once fun cdv A outer s H E hr tk po => (ss_cons (s_asg sc_asked_once.nd b_dnewK)
    (ss_one (s_for (vs := [2]) po rfl (i_any (b_var 0)) (g_name sc_asked_once.nd) (ss_cons (s_if (t_din hr.u1 (b_var 2) (b_var 1)) (ss_one (s_raiseB rfl R_Twice (hr.mono (by first | decide | omega)) tk (a_cons (b_var 2) a_nil))) ss_nil)
    (ss_one (s_dput hr.u1 (b_var 1) (b_var 2) b_bl)))))))
theorem ok_asked_some {f : Addr} {fd : FuncData} (F : Fun K "asked_some" "asked_some" st_asked_some f fd) (F_asked_names : FnB P w K mg base "asked_names" 3 ["texts"] m_asked_names) (F_asked_once : FnB P w K mg base "asked_once" 3 ["names"] m_asked_once) (R_BadCount : XMk P w K mg base "BadCount" ["self", "what", "count"] ["what", "count"]) (m_len : mg "len" = none) : FnOk P w K mg base (L2.CX P w) (4) f fd ["what", "names", "most"] (spOf K mg 3 (fnSem 3 3 body_asked_some)) :=
  fn_ok (k := 3) F sc_asked_some fun cdv A outer s H E hr tk po => (ss_cons (s_if (t_not (t_chain op_le op_le ok_cmpI ok_cmpI b_int (b_callB call_len ok_len m_len (by decide +kernel) (a_cons (b_var 1) a_nil)) (b_var 2))) (ss_one (s_raiseB rfl R_BadCount (hr.mono (by first | decide | omega)) tk (a_cons (b_var 0) (a_cons (b_callB call_len ok_len m_len (by decide +kernel) (a_cons (b_var 1) a_nil)) a_nil)))) ss_nil)
    (ss_cons (s_expr (b_fn F_asked_names (hr.mono (by first | decide | omega)) tk (a_cons (b_var 1) a_nil) (len_cons len_nil)))
    (ss_one (s_expr (b_fn F_asked_once (hr.mono (by first | decide | omega)) tk (a_cons (b_var 1) a_nil) (len_cons len_nil))))))
theorem ok_measured {f : Addr} {fd : FuncData} (F : Fun K "measured" "measured" st_measured f fd) (M_inner : MTab P w K mg base 0 0 "inner" []) (A_row : AtT K mg "row" ["Body"]) (m_max : mg "max" = none) (m_len : mg "len" = none) : FnOk P w K mg base (L2.CX P w) (1) f fd ["body"] (spOf K mg 1 (shut false (fnSem 1 8 body_measured))) :=
  fn_shut (fn_ok (k := 0) F sc_measured fun cdv A outer s H E hr tk po => (ss_cons (s_par3 rfl sc_measured.nd (a_cons b_int (a_cons b_int (a_cons (b_lstC (a_cons (b_tup (a_cons (b_var 0) (a_cons b_int a_nil))) a_nil)) a_nil))))
    (ss_cons (s_while po (t_cmp (op_neNil hr.u0) ok_nil (b_var 3) (b_lst a_nil)) (ss_cons (s_asgG (vs := [4, 5]) (b_meth0 PySem.F.plainAttrs_list PySem.F.slot_list_pop PySem.F.type_list_pop mt_pop0 ok_pop0 (b_var 3)) (g_tup rfl (gs_cons (g_name sc_measured.nd) (gs_cons (g_name sc_measured.nd) gs_nil))))
    (ss_cons (s_asg sc_measured.nd (b_callB (call_max2 rfl) ok_max2 m_max (by decide +kernel) (a_cons (b_var 2) (a_cons (b_var 5) a_nil))))
    (ss_cons (s_asg sc_measured.nd (b_bin op_addA ok_add (b_var 1) (b_callB call_len ok_len m_len (by decide +kernel) (a_cons (b_at A_row (b_var 4)) a_nil))))
    (ss_one (s_for (vs := [6]) po rfl (i_any (b_at A_row (b_var 4))) (g_name sc_measured.nd) (ss_one (s_expr (b_meth PySem.F.plainAttrs_list PySem.F.slot_list_extend PySem.F.type_list_extend mt_extA ok_extend (b_var 3) (a_cons (b_lc rfl sc_measured.nd (blkOk_by (own := [("inside", 7)]) (by kernel_rfl)) (i_any (b_mth0 M_inner (hr.mono (by first | decide | omega)) tk (b_var 6))) (fun _ _ _ _ _ => (g_name sc_measured.nd)) (fun _ _ _ _ _ => ts_nil) (fun _ _ _ _ _ => (b_tup (a_cons (b_var 7) (a_cons (b_bin op_addA ok_add (b_var 5) b_int) a_nil))))) a_nil))))))))))
    (ss_one (s_ret (b_tup (a_cons (b_var 1) (a_cons (b_var 2) a_nil))))))))
theorem ok_asked_sizes {f : Addr} {fd : FuncData} (F : Fun K "asked_sizes" "asked_sizes" st_asked_sizes f fd) (F_measured : FnB P w K mg base "measured" 1 ["body"] m_measured) {u_MOST_STATEMENTS : Value} (g_MOST_STATEMENTS : mg "MOST_STATEMENTS" = some u_MOST_STATEMENTS) (r_MOST_STATEMENTS : RelV (.int 20) u_MOST_STATEMENTS) {u_MOST_DEEP : Value} (g_MOST_DEEP : mg "MOST_DEEP" = some u_MOST_DEEP) (r_MOST_DEEP : RelV (.int 5) u_MOST_DEEP) (R_BadCount : XMk P w K mg base "BadCount" ["self", "what", "count"] ["what", "count"]) (m_sum : mg "sum" = none) : FnOk P w K mg base (L2.CX P w) (3) f fd ["bodies"] (spOf K mg 1 (fnSem 1 6 body_asked_sizes)) :=
  fn_ok (k := 2) F sc_asked_sizes fun cdv A outer s H E hr tk po => (ss_cons (s_asgLc (i := 1) rfl sc_asked_sizes.nd (sw_true rfl rfl rfl (by decide +kernel)) (blkOk_by (own := [("body", 5)]) (by kernel_rfl)) (i_any (b_var 0)) (fun _ _ _ _ _ => (g_name sc_asked_sizes.nd)) (fun _ _ _ _ _ => ts_nil) (fun _ _ _ _ _ => (b_fn F_measured (hr.mono (by first | decide | omega)) takesB (a_cons (b_var 5) a_nil) (len_cons len_nil))))
    (ss_cons (s_asg sc_asked_sizes.nd (b_callB (cr_sum rfl) ok_sum m_sum (by decide +kernel) (a_cons (b_lc rfl sc_asked_sizes.nd (blkOk_by (own := [("many", 3), ("deep", 4)]) (by kernel_rfl)) (i_any (b_var 1)) (fun _ _ _ _ _ => (g_tup rfl (gs_cons (g_name sc_asked_sizes.nd) (gs_cons (g_name sc_asked_sizes.nd) gs_nil)))) (fun _ _ _ _ _ => ts_nil) (fun _ _ _ _ _ => (b_var 3))) a_nil)))
    (ss_cons (s_if (t_cmp op_gt ok_cmpI (b_var 2) (b_globI g_MOST_STATEMENTS r_MOST_STATEMENTS)) (ss_one (s_raiseB rfl R_BadCount (hr.mono (by first | decide | omega)) tk (a_cons (b_strS rfl) (a_cons (b_var 2) a_nil)))) ss_nil)
    (ss_one (s_for (vs := [3, 4]) po rfl (i_any (b_var 1)) (g_tup rfl (gs_cons (g_name sc_asked_sizes.nd) (gs_cons (g_name sc_asked_sizes.nd) gs_nil))) (ss_one (s_if (t_cmp op_gt ok_cmpI (b_var 4) (b_globI g_MOST_DEEP r_MOST_DEEP)) (ss_one (s_raiseB rfl R_BadCount (hr.mono (by first | decide | omega)) tk (a_cons (b_strS rfl) (a_cons (b_var 4) a_nil)))) ss_nil)))))))
theorem ok_names_in {f : Addr} {fd : FuncData} (F : Fun K "names_in" "names_in" st_names_in f fd) (A_terms : AtT K mg "terms" ["Form"]) (A_name : AtT K mg "name" []) (A_form : AtT K mg "form" []) (I_Any : IsoOk K mg iso_Any) (I_Put : IsoOk K mg iso_Put) (m_isinstance : mg "isinstance" = none) : FnOk P w K mg base (L2.CX P w) (1) f fd ["statement"] (spOf K mg 1 (shut false (fnSem 1 4 body_names_in))) :=
  fn_shut (fn_ok (k := 0) F sc_names_in fun cdv A outer s H E hr tk po => (ss_cons (s_if (t_val (b_iso (i := iso_Any) I_Any m_isinstance (b_var 0))) (ss_one (s_ret (b_lst (a_cons (b_at A_name (b_var 0)) a_nil)))) ss_nil)
    (ss_cons (s_asg sc_names_in.nd (b_lstC a_nil))
    (ss_cons (s_if (t_val (b_iso (i := iso_Put) I_Put m_isinstance (b_var 0))) (ss_cons (s_expr (b_meth PySem.F.plainAttrs_list PySem.F.slot_list_append PySem.F.type_list_append mt_append ok_append (b_var 1) (a_cons (b_at A_name (b_var 0)) a_nil)))
    (ss_one (s_for (vs := [2, 3]) po rfl (i_any (b_at A_terms (b_at A_form (b_var 0)))) (g_tup rfl (gs_cons (g_name sc_names_in.nd) (gs_cons (g_name sc_names_in.nd) gs_nil))) (ss_one (s_expr (b_meth PySem.F.plainAttrs_list PySem.F.slot_list_extend PySem.F.type_list_extend mt_extA ok_extend (b_var 1) (a_cons (b_var 3) a_nil))))))) ss_nil)
    (ss_frz 1 (ss_one (s_ret (b_var 1))))))))
theorem ok_all_within {f : Addr} {fd : FuncData} (F : Fun K "all_within" "all_within" st_all_within f fd) {k : Nat} (hk : 0 ≤ k) {r_all_within : FN} (F_all_within : FnB P w K mg base "all_within" k ["body"] r_all_within) (M_inner : MTab P w K mg base 0 0 "inner" []) (A_row : AtT K mg "row" ["Body"]) : FnOk P w K mg base (L2.CX P w) (k + 1) f fd ["body"] (spOf K mg 1 (shut false (fnSem 1 4 (body_all_within r_all_within)))) :=
  fn_shut (fn_ok (k := k) F sc_all_within fun cdv A outer s H E hr tk po => (ss_cons (s_asg sc_all_within.nd (b_lstC a_nil))
    (ss_cons (s_for (vs := [2]) po rfl (i_any (b_at A_row (b_var 0))) (g_name sc_all_within.nd) (ss_cons (s_expr (b_meth PySem.F.plainAttrs_list PySem.F.slot_list_append PySem.F.type_list_append mt_append ok_append (b_var 1) (a_cons (b_var 2) a_nil)))
    (ss_one (s_for (vs := [3]) po rfl (i_any (b_mth0 M_inner (hr.mono (by first | decide | omega)) tk (b_var 2))) (g_name sc_all_within.nd) (ss_one (s_expr (b_meth PySem.F.plainAttrs_list PySem.F.slot_list_extend PySem.F.type_list_extend mt_extA ok_extend (b_var 1) (a_cons (b_fn F_all_within (hr.mono (by first | decide | omega)) tk (a_cons (b_var 3) a_nil) (len_cons len_nil)) a_nil))))))))
    (ss_frz 1 (ss_one (s_ret (b_var 1)))))))
theorem ok_Program_statements {f : Addr} {fd : FuncData} (F : Fun K "statements" "Program.statements" st_Program_statements f fd) (F_all_within : FnB P w K mg base "all_within" 12 ["body"] (m_all_within 12)) (A_bodies : AtT K mg "bodies" ["Program"]) : FnOk P w K mg base (L2.CX P w) (13) f fd ["self"] (spOf K mg 1 (shut false (fnSem 1 4 body_Program_statements))) :=
  fn_shut (fn_ok (k := 12) F sc_Program_statements fun cdv A outer s H E hr tk po => (ss_cons (s_asg sc_Program_statements.nd (b_lstC a_nil))
    (ss_cons (s_for (vs := [2, 3]) po rfl (i_any (b_at A_bodies (b_var 0))) (g_tup rfl (gs_cons (g_name sc_Program_statements.nd) (gs_cons (g_name sc_Program_statements.nd) gs_nil))) (ss_one (s_expr (b_meth PySem.F.plainAttrs_list PySem.F.slot_list_extend PySem.F.type_list_extend mt_extA ok_extend (b_var 1) (a_cons (b_fn F_all_within (hr.mono (by first | decide | omega)) tk (a_cons (b_var 3) a_nil) (len_cons len_nil)) a_nil)))))
    (ss_frz 1 (ss_one (s_ret (b_var 1)))))))
theorem ok_Program___init__ {f : Addr} {fd : FuncData} (F : Fun K "__init__" "Program.__init__" st_Program___init__ f fd) (F_asked_some : FnB P w K mg base "asked_some" 4 ["what", "names", "most"] m_asked_some) (F_asked_sizes : FnB P w K mg base "asked_sizes" 3 ["bodies"] m_asked_sizes) (F_names_in : FnB P w K mg base "names_in" 1 ["statement"] m_names_in) (M_statements : MTab P w K mg base 13 0 "statements" [("Program", m_Program_statements)]) (A_number_names : AtT K mg "number_names" ["Program"]) (A_bodies : AtT K mg "bodies" ["Program"]) (A_part : AtT K mg "part" []) (I_Call : IsoOk K mg iso_Call) {u_MOST_NUMBERS : Value} (g_MOST_NUMBERS : mg "MOST_NUMBERS" = some u_MOST_NUMBERS) (r_MOST_NUMBERS : RelV (.int 3) u_MOST_NUMBERS) {u_MOST_PARTS : Value} (g_MOST_PARTS : mg "MOST_PARTS" = some u_MOST_PARTS) (r_MOST_PARTS : RelV (.int 4) u_MOST_PARTS) (R_NoPart : XMk P w K mg base "NoPart" ["self", "name"] ["name"]) (R_NoNumber : XMk P w K mg base "NoNumber" ["self", "name"] ["name"]) (m_tuple : mg "tuple" = none) (m_list : mg "list" = none) (m_isinstance : mg "isinstance" = none) : FnOk P w K mg base (L2.CX P w) (14) f fd ["self", "names", "parts"] (spOf K mg 3 (fnSem 3 7 body_Program___init__)) :=
  fn_ok (k := 13) F sc_Program___init__ fun cdv A outer s H E hr tk po => (ss_cons (s_expr (b_fn F_asked_some (hr.mono (by first | decide | omega)) tk (a_cons (b_strS rfl) (a_cons (b_callTy call_list_of ok_list m_list (by decide +kernel) (a_cons (b_var 1) a_nil)) (a_cons (b_globI g_MOST_NUMBERS r_MOST_NUMBERS) a_nil))) (len_cons (len_cons (len_cons len_nil)))))
    (ss_cons (s_expr (b_fn F_asked_some (hr.mono (by first | decide | omega)) tk (a_cons (b_strS rfl) (a_cons (b_lc rfl sc_Program___init__.nd (blkOk_by (own := [("name", 5), ("body", 6)]) (by kernel_rfl)) (i_any (b_var 2)) (fun _ _ _ _ _ => (g_tup rfl (gs_cons (g_name sc_Program___init__.nd) (gs_cons (g_name sc_Program___init__.nd) gs_nil)))) (fun _ _ _ _ _ => ts_nil) (fun _ _ _ _ _ => (b_var 5))) (a_cons (b_globI g_MOST_PARTS r_MOST_PARTS) a_nil))) (len_cons (len_cons (len_cons len_nil)))))
    (ss_cons (s_expr (b_fn F_asked_sizes (hr.mono (by first | decide | omega)) tk (a_cons (b_lc rfl sc_Program___init__.nd (blkOk_by (own := [("name", 5), ("body", 6)]) (by kernel_rfl)) (i_any (b_var 2)) (fun _ _ _ _ _ => (g_tup rfl (gs_cons (g_name sc_Program___init__.nd) (gs_cons (g_name sc_Program___init__.nd) gs_nil)))) (fun _ _ _ _ _ => ts_nil) (fun _ _ _ _ _ => (b_var 6))) a_nil) (len_cons len_nil)))
    (ss_cons (s_attr A_number_names (b_var 0) (b_callTy call_tuple_of ok_tuple m_tuple (by decide +kernel) (a_cons (b_var 1) a_nil)))
    (ss_cons (s_attr A_bodies (b_var 0) (b_callTy call_tuple_of ok_tuple m_tuple (by decide +kernel) (a_cons (b_lc rfl sc_Program___init__.nd (blkOk_by (own := [("name", 5), ("body", 6)]) (by kernel_rfl)) (i_any (b_var 2)) (fun _ _ _ _ _ => (g_tup rfl (gs_cons (g_name sc_Program___init__.nd) (gs_cons (g_name sc_Program___init__.nd) gs_nil)))) (fun _ _ _ _ _ => ts_nil) (fun _ _ _ _ _ => (b_tup (a_cons (b_var 5) (a_cons (b_var 6) a_nil))))) a_nil)))
    (ss_cons (s_asgLc (i := 3) rfl sc_Program___init__.nd (sw_true rfl rfl rfl (by decide +kernel)) (blkOk_by (own := [("name", 5), ("body", 6)]) (by kernel_rfl)) (i_any (b_var 2)) (fun _ _ _ _ _ => (g_tup rfl (gs_cons (g_name sc_Program___init__.nd) (gs_cons (g_name sc_Program___init__.nd) gs_nil)))) (fun _ _ _ _ _ => ts_nil) (fun _ _ _ _ _ => (b_var 5)))
    (ss_one (s_for (vs := [4]) po rfl (i_any (b_mth0 M_statements (hr.mono (by first | decide | omega)) tk (b_var 0))) (g_name sc_Program___init__.nd) (ss_cons (s_for (vs := [5]) po rfl (i_any (b_fn F_names_in (hr.mono (by first | decide | omega)) tk (a_cons (b_var 4) a_nil) (len_cons len_nil))) (g_name sc_Program___init__.nd) (ss_one (s_if (t_cmp op_notInA ok_in (b_var 5) (b_at A_number_names (b_var 0))) (ss_one (s_raiseB rfl R_NoNumber (hr.mono (by first | decide | omega)) tk (a_cons (b_var 5) a_nil))) ss_nil)))
    (ss_one (s_if (PW.pt (w_and (t_val (b_iso (i := iso_Call) I_Call m_isinstance (b_var 4))) (w_and1 (t_cmp op_notInA ok_in (b_at A_part (b_var 4)) (b_var 3))))) (ss_one (s_raiseB rfl R_NoPart (hr.mono (by first | decide | omega)) tk (a_cons (b_at A_part (b_var 4)) a_nil))) ss_nil)))))))))))
theorem ok_in_order {f : Addr} {fd : FuncData} (F : Fun K "in_order" "in_order" st_in_order f fd) (m_len : mg "len" = none) : FnOk P w K mg base (L2.CX P w) (1) f fd ["names"] (spOf K mg 1 (fnSem 1 1 body_in_order)) :=
  fn_ok (k := 0) F sc_in_order fun cdv A outer s H E hr tk po => (ss_one (s_ret (b_tup (a_cons (b_bin op_sub ok_sub b_int (b_callB call_len ok_len m_len (by decide +kernel) (a_cons (b_var 0) a_nil))) (a_cons (b_var 0) a_nil)))))
theorem ok_Form___init__ {f : Addr} {fd : FuncData} (F : Fun K "__init__" "Form.__init__" st_Form___init__ f fd) (F_asked_names : FnB P w K mg base "asked_names" 3 ["texts"] m_asked_names) (F_in_order : FnB P w K mg base "in_order" 1 ["names"] m_in_order) (A_terms : AtT K mg "terms" ["Form"]) {u_MOST_NAMES : Value} (g_MOST_NAMES : mg "MOST_NAMES" = some u_MOST_NAMES) (r_MOST_NAMES : RelV (.int 2) u_MOST_NAMES) (R_BadCount : XMk P w K mg base "BadCount" ["self", "what", "count"] ["what", "count"]) (m_tuple : mg "tuple" = none) (m_len : mg "len" = none) (m_sorted : mg "sorted" = none) (m_list : mg "list" = none) : FnOk P w K mg base (L2.CX P w) (4) f fd ["self", "terms"] (spOf K mg 2 (fnSem 2 6 body_Form___init__)) :=
  fn_ok (k := 3) F sc_Form___init__ fun cdv A outer s H E hr tk po => (ss_cons (s_asg sc_Form___init__.nd b_dnewT)
    (ss_cons (s_for (vs := [3, 4]) po rfl (i_any (b_var 1)) (g_tup rfl (gs_cons (g_name sc_Form___init__.nd) (gs_cons (g_name sc_Form___init__.nd) gs_nil))) (ss_cons (s_if (t_cmp op_gt ok_cmpI (b_callB call_len ok_len m_len (by decide +kernel) (a_cons (b_var 4) a_nil)) (b_globI g_MOST_NAMES r_MOST_NAMES)) (ss_one (s_raiseB rfl R_BadCount (hr.mono (by first | decide | omega)) tk (a_cons (b_strS rfl) (a_cons (b_callB call_len ok_len m_len (by decide +kernel) (a_cons (b_var 4) a_nil)) a_nil)))) ss_nil)
    (ss_cons (s_expr (b_fn F_asked_names (hr.mono (by first | decide | omega)) tk (a_cons (b_var 4) a_nil) (len_cons len_nil)))
    (ss_cons (s_asg sc_Form___init__.nd (b_callTy call_tuple_of ok_tuple m_tuple (by decide +kernel) (a_cons (b_callB (cr_sortD hr.u130) ok_sorted m_sorted (by decide +kernel) (a_cons (b_var 4) a_nil)) a_nil)))
    (ss_one (s_dput hr.u1 (b_var 2) (b_var 5) (b_bin op_addA ok_add (b_dget2 hr.u1 (b_var 2) (b_var 5) b_int) (b_var 3))))))))
    (ss_frz 2 (ss_one (s_attr A_terms (b_var 0) (b_callTy call_tuple_of ok_tuple m_tuple (by decide +kernel) (a_cons (b_lc rfl sc_Form___init__.nd (blkOk_by (own := [("key", 5)]) (by kernel_rfl)) (i_any (b_sortK F_in_order rfl (hr.mono (by first | decide | omega)) m_sorted (b_callTy (call_list_dT rfl) ok_listT m_list (by decide +kernel) (a_cons (b_var 2) a_nil)))) (fun _ _ _ _ _ => (g_name sc_Form___init__.nd)) (fun _ _ _ _ _ => (ts_one (t_cmp (op_neA hr.units) ok_neA (b_dget hr.u1 (b_var 2) (b_var 5)) b_int))) (fun _ _ _ _ _ => (b_tup (a_cons (b_dget hr.u1 (b_var 2) (b_var 5)) (a_cons (b_var 5) a_nil))))) a_nil)))))))
theorem ok_Body___init__ {f : Addr} {fd : FuncData} (F : Fun K "__init__" "Body.__init__" st_Body___init__ f fd) (A_row : AtT K mg "row" ["Body"]) (m_tuple : mg "tuple" = none) : FnOk P w K mg base (L2.CX P w) (1) f fd ["self", "statements"] (spOf K mg 2 (fnSem 2 2 body_Body___init__)) :=
  fn_ok (k := 0) F sc_Body___init__ fun cdv A outer s H E hr tk po => (ss_one (s_attr A_row (b_var 0) (b_callTy call_tuple_of ok_tuple m_tuple (by decide +kernel) (a_cons (b_var 1) a_nil))))
theorem ok_law {f : Addr} {fd : FuncData} (F : Fun K "law" "law" st_law f fd) (F_law_state : FnB P w K mg base "_law_state" 1 ["_law_cell"] m_law_state) (F_law_names : FnB P w K mg base "_law_names" 3 ["_law_s", "_law_many"] m_law_names) (F_law_terms : FnB P w K mg base "_law_terms" 2 ["_law_s", "_law_names_here"] m_law_terms) (F_law_due : FnB P w K mg base "_law_due" 2 ["_law_names_here", "_law_terms_here", "_law_degree"] m_law_due) (F_law_digit : FnB P w K mg base "_law_digit" 1 ["_law_state_here", "_law_base"] m_law_digit) (F_law_found : FnB P w K mg base "_law_found" 5 ["_law_program", "_law_form", "_law_degree"] m_law_found) (K_Program : MkB P w K mg base 14 2 "Program" m_Program___init__) (K_Form : MkB P w K mg base 4 1 "Form" m_Form___init__) (K_Body : MkB P w K mg base 1 1 "Body" m_Body___init__) : FnOk P w K mg base (L2.CX P w) (16) f fd ["_law_script"] (spOf K mg 1 (fnSem 1 9 body_law)) :=
  fn_ok (k := 15) F sc_law fun cdv A outer s H E hr tk po => (ss_cons (s_for (vs := [1]) po rfl (i_any (b_slc (b_bin op_addA ok_add (b_var 0) (b_lst (a_cons b_int a_nil))) o_none (o_some b_int))) (g_name sc_law.nd) (ss_cons (s_asg sc_law.nd (b_fn F_law_state (hr.mono (by first | decide | omega)) tk (a_cons (b_var 1) a_nil) (len_cons len_nil)))
    (ss_cons (s_asg sc_law.nd (b_fn F_law_names (hr.mono (by first | decide | omega)) tk (a_cons (b_var 2) (a_cons (b_bin op_addA ok_add b_int (b_fn F_law_digit (hr.mono (by first | decide | omega)) tk (a_cons (b_var 2) (a_cons b_int a_nil)) (len_cons (len_cons len_nil)))) a_nil)) (len_cons (len_cons len_nil))))
    (ss_cons (s_asg sc_law.nd (b_bin op_addA ok_add b_int (b_fn F_law_digit (hr.mono (by first | decide | omega)) tk (a_cons (b_var 2) (a_cons b_int a_nil)) (len_cons (len_cons len_nil)))))
    (ss_cons (s_asg sc_law.nd (b_fn F_law_terms (hr.mono (by first | decide | omega)) tk (a_cons (b_var 2) (a_cons (b_var 3) a_nil)) (len_cons (len_cons len_nil))))
    (ss_cons (s_asg sc_law.nd (b_make false K_Program (hr.mono (by first | decide | omega)) tk (a_cons (b_var 3) (a_cons (b_lst (a_cons (b_tup (a_cons (b_strS rfl) (a_cons (b_make false K_Body (hr.mono (by first | decide | omega)) tk (a_cons (b_lst a_nil) a_nil) (len_cons len_nil)) a_nil))) a_nil)) a_nil)) (len_cons (len_cons len_nil))))
    (ss_cons (s_asg sc_law.nd (b_make false K_Form (hr.mono (by first | decide | omega)) tk (a_cons (b_var 5) a_nil) (len_cons len_nil)))
    (ss_cons (s_asg sc_law.nd (b_fn F_law_due (hr.mono (by first | decide | omega)) tk (a_cons (b_var 3) (a_cons (b_var 5) (a_cons (b_var 4) a_nil))) (len_cons (len_cons (len_cons len_nil)))))
    (ss_one (s_if (PW.pt (w_or (t_cmp (op_neA hr.units) ok_neA (b_fn F_law_found (hr.mono (by first | decide | omega)) tk (a_cons (b_var 6) (a_cons (b_var 7) (a_cons (b_var 4) a_nil))) (len_cons (len_cons (len_cons len_nil)))) (b_var 8)) (w_or1 (t_cmp (op_neA hr.units) ok_neA (b_fn F_law_found (hr.mono (by first | decide | omega)) tk (a_cons (b_var 6) (a_cons (b_var 7) (a_cons (b_var 4) a_nil))) (len_cons (len_cons (len_cons len_nil)))) (b_var 8))))) (ss_one (s_ret b_bl)) ss_nil))))))))))
    (ss_one (s_ret b_bl)))
end
def spLaw (K : PySem.W.Frag) : Sp := fun vs H Q _ => ∃ (a : Addr) (ns : List Int), vs = [.ref a] ∧ LamX.Tabs (tabsOf K) H ∧ SqL K H a (ns.map V.int) ∧ ns.length ≤ 63 ∧ (∀ z ∈ ns, Builtin.Int.intBits z ≤ 1048576) ∧ ∀ H', Q (.bl true) H'
theorem all_mk (lawT : ∀ ns : List Int, ns.length ≤ 63 → (∀ z ∈ ns, Builtin.Int.intBits z ≤ 1048576) → ∃ cs, m_law [.lst (ns.map Pv.int)] [] = .ok (.bl true) cs) {P : Program} {w : World} {K : PySem.W.Frag} {h : Heap} {mg : Str → Option Value} {fa : Addr} (X : K.In h) (G : h.Ns mainGlobals mg) (hfa : mg "law" = some (.ref fa))
    {f_law_state : Addr} {od_law_state an_law_state : Option Addr} {sl_law_state : Array (Option Value)} {oc_law_state kV_law_state dc_law_state pm_law_state cd_law_state ct_law_state : Value} (a_law_state : PySem.W.nsIn K mainGlobals "_law_state" = some (some (.ref f_law_state))) (l_law_state : K.lookup f_law_state = some ⟨oc_law_state, od_law_state, .func (PySem.W.fnOf "_law_state" "_law_state" (defArgs st_law_state) (defBody st_law_state) (defScope st_law_state) .none kV_law_state dc_law_state pm_law_state an_law_state cd_law_state ct_law_state), sl_law_state⟩) (c_law_state : PySem.W.codeIn K cd_law_state "_law_state" = true) (k_law_state : PySem.W.keepIn K (.ref f_law_state) = true)
    {f_law_digit : Addr} {od_law_digit an_law_digit : Option Addr} {sl_law_digit : Array (Option Value)} {oc_law_digit kV_law_digit dc_law_digit pm_law_digit cd_law_digit ct_law_digit : Value} (a_law_digit : PySem.W.nsIn K mainGlobals "_law_digit" = some (some (.ref f_law_digit))) (l_law_digit : K.lookup f_law_digit = some ⟨oc_law_digit, od_law_digit, .func (PySem.W.fnOf "_law_digit" "_law_digit" (defArgs st_law_digit) (defBody st_law_digit) (defScope st_law_digit) .none kV_law_digit dc_law_digit pm_law_digit an_law_digit cd_law_digit ct_law_digit), sl_law_digit⟩) (c_law_digit : PySem.W.codeIn K cd_law_digit "_law_digit" = true) (k_law_digit : PySem.W.keepIn K (.ref f_law_digit) = true)
    {f_law_name : Addr} {od_law_name an_law_name : Option Addr} {sl_law_name : Array (Option Value)} {oc_law_name kV_law_name dc_law_name pm_law_name cd_law_name ct_law_name : Value} (a_law_name : PySem.W.nsIn K mainGlobals "_law_name" = some (some (.ref f_law_name))) (l_law_name : K.lookup f_law_name = some ⟨oc_law_name, od_law_name, .func (PySem.W.fnOf "_law_name" "_law_name" (defArgs st_law_name) (defBody st_law_name) (defScope st_law_name) .none kV_law_name dc_law_name pm_law_name an_law_name cd_law_name ct_law_name), sl_law_name⟩) (c_law_name : PySem.W.codeIn K cd_law_name "_law_name" = true) (k_law_name : PySem.W.keepIn K (.ref f_law_name) = true)
    {f_law_names : Addr} {od_law_names an_law_names : Option Addr} {sl_law_names : Array (Option Value)} {oc_law_names kV_law_names dc_law_names pm_law_names cd_law_names ct_law_names : Value} (a_law_names : PySem.W.nsIn K mainGlobals "_law_names" = some (some (.ref f_law_names))) (l_law_names : K.lookup f_law_names = some ⟨oc_law_names, od_law_names, .func (PySem.W.fnOf "_law_names" "_law_names" (defArgs st_law_names) (defBody st_law_names) (defScope st_law_names) .none kV_law_names dc_law_names pm_law_names an_law_names cd_law_names ct_law_names), sl_law_names⟩) (c_law_names : PySem.W.codeIn K cd_law_names "_law_names" = true) (k_law_names : PySem.W.keepIn K (.ref f_law_names) = true)
    {f_law_terms : Addr} {od_law_terms an_law_terms : Option Addr} {sl_law_terms : Array (Option Value)} {oc_law_terms kV_law_terms dc_law_terms pm_law_terms cd_law_terms ct_law_terms : Value} (a_law_terms : PySem.W.nsIn K mainGlobals "_law_terms" = some (some (.ref f_law_terms))) (l_law_terms : K.lookup f_law_terms = some ⟨oc_law_terms, od_law_terms, .func (PySem.W.fnOf "_law_terms" "_law_terms" (defArgs st_law_terms) (defBody st_law_terms) (defScope st_law_terms) .none kV_law_terms dc_law_terms pm_law_terms an_law_terms cd_law_terms ct_law_terms), sl_law_terms⟩) (c_law_terms : PySem.W.codeIn K cd_law_terms "_law_terms" = true) (k_law_terms : PySem.W.keepIn K (.ref f_law_terms) = true)
    {f_law_sorted : Addr} {od_law_sorted an_law_sorted : Option Addr} {sl_law_sorted : Array (Option Value)} {oc_law_sorted kV_law_sorted dc_law_sorted pm_law_sorted cd_law_sorted ct_law_sorted : Value} (a_law_sorted : PySem.W.nsIn K mainGlobals "_law_sorted" = some (some (.ref f_law_sorted))) (l_law_sorted : K.lookup f_law_sorted = some ⟨oc_law_sorted, od_law_sorted, .func (PySem.W.fnOf "_law_sorted" "_law_sorted" (defArgs st_law_sorted) (defBody st_law_sorted) (defScope st_law_sorted) .none kV_law_sorted dc_law_sorted pm_law_sorted an_law_sorted cd_law_sorted ct_law_sorted), sl_law_sorted⟩) (c_law_sorted : PySem.W.codeIn K cd_law_sorted "_law_sorted" = true) (k_law_sorted : PySem.W.keepIn K (.ref f_law_sorted) = true)
    {f_law_due : Addr} {od_law_due an_law_due : Option Addr} {sl_law_due : Array (Option Value)} {oc_law_due kV_law_due dc_law_due pm_law_due cd_law_due ct_law_due : Value} (a_law_due : PySem.W.nsIn K mainGlobals "_law_due" = some (some (.ref f_law_due))) (l_law_due : K.lookup f_law_due = some ⟨oc_law_due, od_law_due, .func (PySem.W.fnOf "_law_due" "_law_due" (defArgs st_law_due) (defBody st_law_due) (defScope st_law_due) .none kV_law_due dc_law_due pm_law_due an_law_due cd_law_due ct_law_due), sl_law_due⟩) (c_law_due : PySem.W.codeIn K cd_law_due "_law_due" = true) (k_law_due : PySem.W.keepIn K (.ref f_law_due) = true)
    {f_asked_degree : Addr} {od_asked_degree an_asked_degree : Option Addr} {sl_asked_degree : Array (Option Value)} {oc_asked_degree kV_asked_degree dc_asked_degree pm_asked_degree cd_asked_degree ct_asked_degree : Value} (a_asked_degree : PySem.W.nsIn K mainGlobals "asked_degree" = some (some (.ref f_asked_degree))) (l_asked_degree : K.lookup f_asked_degree = some ⟨oc_asked_degree, od_asked_degree, .func (PySem.W.fnOf "asked_degree" "asked_degree" (defArgs st_asked_degree) (defBody st_asked_degree) (defScope st_asked_degree) .none kV_asked_degree dc_asked_degree pm_asked_degree an_asked_degree cd_asked_degree ct_asked_degree), sl_asked_degree⟩) (c_asked_degree : PySem.W.codeIn K cd_asked_degree "asked_degree" = true) (k_asked_degree : PySem.W.keepIn K (.ref f_asked_degree) = true)
    {f_Program_names : Addr} {od_Program_names an_Program_names : Option Addr} {sl_Program_names : Array (Option Value)} {oc_Program_names kV_Program_names dc_Program_names pm_Program_names cd_Program_names ct_Program_names : Value} (l_Program_names : K.lookup f_Program_names = some ⟨oc_Program_names, od_Program_names, .func (PySem.W.fnOf "names" "Program.names" (defArgs st_Program_names) (defBody st_Program_names) (defScope st_Program_names) .none kV_Program_names dc_Program_names pm_Program_names an_Program_names cd_Program_names ct_Program_names), sl_Program_names⟩) (c_Program_names : PySem.W.codeIn K cd_Program_names "Program.names" = true) (k_Program_names : PySem.W.keepIn K (.ref f_Program_names) = true)
    (n_Program_names : PySem.W.isFn K (.ref f_Program_names) = true)
    {f_asked_names_of : Addr} {od_asked_names_of an_asked_names_of : Option Addr} {sl_asked_names_of : Array (Option Value)} {oc_asked_names_of kV_asked_names_of dc_asked_names_of pm_asked_names_of cd_asked_names_of ct_asked_names_of : Value} (a_asked_names_of : PySem.W.nsIn K mainGlobals "asked_names_of" = some (some (.ref f_asked_names_of))) (l_asked_names_of : K.lookup f_asked_names_of = some ⟨oc_asked_names_of, od_asked_names_of, .func (PySem.W.fnOf "asked_names_of" "asked_names_of" (defArgs st_asked_names_of) (defBody st_asked_names_of) (defScope st_asked_names_of) .none kV_asked_names_of dc_asked_names_of pm_asked_names_of an_asked_names_of cd_asked_names_of ct_asked_names_of), sl_asked_names_of⟩) (c_asked_names_of : PySem.W.codeIn K cd_asked_names_of "asked_names_of" = true) (k_asked_names_of : PySem.W.keepIn K (.ref f_asked_names_of) = true)
    {f_products : Addr} {od_products an_products : Option Addr} {sl_products : Array (Option Value)} {oc_products kV_products dc_products pm_products cd_products ct_products : Value} (a_products : PySem.W.nsIn K mainGlobals "products" = some (some (.ref f_products))) (l_products : K.lookup f_products = some ⟨oc_products, od_products, .func (PySem.W.fnOf "products" "products" (defArgs st_products) (defBody st_products) (defScope st_products) .none kV_products dc_products pm_products an_products cd_products ct_products), sl_products⟩) (c_products : PySem.W.codeIn K cd_products "products" = true) (k_products : PySem.W.keepIn K (.ref f_products) = true)
    {f_columns : Addr} {od_columns an_columns : Option Addr} {sl_columns : Array (Option Value)} {oc_columns kV_columns dc_columns pm_columns cd_columns ct_columns : Value} (a_columns : PySem.W.nsIn K mainGlobals "columns" = some (some (.ref f_columns))) (l_columns : K.lookup f_columns = some ⟨oc_columns, od_columns, .func (PySem.W.fnOf "columns" "columns" (defArgs st_columns) (defBody st_columns) (defScope st_columns) .none kV_columns dc_columns pm_columns an_columns cd_columns ct_columns), sl_columns⟩) (c_columns : PySem.W.codeIn K cd_columns "columns" = true) (k_columns : PySem.W.keepIn K (.ref f_columns) = true)
    {f_Form_degree : Addr} {od_Form_degree an_Form_degree : Option Addr} {sl_Form_degree : Array (Option Value)} {oc_Form_degree kV_Form_degree dc_Form_degree pm_Form_degree cd_Form_degree ct_Form_degree : Value} (l_Form_degree : K.lookup f_Form_degree = some ⟨oc_Form_degree, od_Form_degree, .func (PySem.W.fnOf "degree" "Form.degree" (defArgs st_Form_degree) (defBody st_Form_degree) (defScope st_Form_degree) .none kV_Form_degree dc_Form_degree pm_Form_degree an_Form_degree cd_Form_degree ct_Form_degree), sl_Form_degree⟩) (c_Form_degree : PySem.W.codeIn K cd_Form_degree "Form.degree" = true) (k_Form_degree : PySem.W.keepIn K (.ref f_Form_degree) = true)
    (n_Form_degree : PySem.W.isFn K (.ref f_Form_degree) = true)
    {f_row_of : Addr} {od_row_of an_row_of : Option Addr} {sl_row_of : Array (Option Value)} {oc_row_of kV_row_of dc_row_of pm_row_of cd_row_of ct_row_of : Value} (a_row_of : PySem.W.nsIn K mainGlobals "row_of" = some (some (.ref f_row_of))) (l_row_of : K.lookup f_row_of = some ⟨oc_row_of, od_row_of, .func (PySem.W.fnOf "row_of" "row_of" (defArgs st_row_of) (defBody st_row_of) (defScope st_row_of) .none kV_row_of dc_row_of pm_row_of an_row_of cd_row_of ct_row_of), sl_row_of⟩) (c_row_of : PySem.W.codeIn K cd_row_of "row_of" = true) (k_row_of : PySem.W.keepIn K (.ref f_row_of) = true)
    {f_law_found : Addr} {od_law_found an_law_found : Option Addr} {sl_law_found : Array (Option Value)} {oc_law_found kV_law_found dc_law_found pm_law_found cd_law_found ct_law_found : Value} (a_law_found : PySem.W.nsIn K mainGlobals "_law_found" = some (some (.ref f_law_found))) (l_law_found : K.lookup f_law_found = some ⟨oc_law_found, od_law_found, .func (PySem.W.fnOf "_law_found" "_law_found" (defArgs st_law_found) (defBody st_law_found) (defScope st_law_found) .none kV_law_found dc_law_found pm_law_found an_law_found cd_law_found ct_law_found), sl_law_found⟩) (c_law_found : PySem.W.codeIn K cd_law_found "_law_found" = true) (k_law_found : PySem.W.keepIn K (.ref f_law_found) = true)
    {f_is_name : Addr} {od_is_name an_is_name : Option Addr} {sl_is_name : Array (Option Value)} {oc_is_name kV_is_name dc_is_name pm_is_name cd_is_name ct_is_name : Value} (a_is_name : PySem.W.nsIn K mainGlobals "is_name" = some (some (.ref f_is_name))) (l_is_name : K.lookup f_is_name = some ⟨oc_is_name, od_is_name, .func (PySem.W.fnOf "is_name" "is_name" (defArgs st_is_name) (defBody st_is_name) (defScope st_is_name) .none kV_is_name dc_is_name pm_is_name an_is_name cd_is_name ct_is_name), sl_is_name⟩) (c_is_name : PySem.W.codeIn K cd_is_name "is_name" = true) (k_is_name : PySem.W.keepIn K (.ref f_is_name) = true)
    {f_asked_names : Addr} {od_asked_names an_asked_names : Option Addr} {sl_asked_names : Array (Option Value)} {oc_asked_names kV_asked_names dc_asked_names pm_asked_names cd_asked_names ct_asked_names : Value} (a_asked_names : PySem.W.nsIn K mainGlobals "asked_names" = some (some (.ref f_asked_names))) (l_asked_names : K.lookup f_asked_names = some ⟨oc_asked_names, od_asked_names, .func (PySem.W.fnOf "asked_names" "asked_names" (defArgs st_asked_names) (defBody st_asked_names) (defScope st_asked_names) .none kV_asked_names dc_asked_names pm_asked_names an_asked_names cd_asked_names ct_asked_names), sl_asked_names⟩) (c_asked_names : PySem.W.codeIn K cd_asked_names "asked_names" = true) (k_asked_names : PySem.W.keepIn K (.ref f_asked_names) = true)
    {f_asked_once : Addr} {od_asked_once an_asked_once : Option Addr} {sl_asked_once : Array (Option Value)} {oc_asked_once kV_asked_once dc_asked_once pm_asked_once cd_asked_once ct_asked_once : Value} (a_asked_once : PySem.W.nsIn K mainGlobals "asked_once" = some (some (.ref f_asked_once))) (l_asked_once : K.lookup f_asked_once = some ⟨oc_asked_once, od_asked_once, .func (PySem.W.fnOf "asked_once" "asked_once" (defArgs st_asked_once) (defBody st_asked_once) (defScope st_asked_once) .none kV_asked_once dc_asked_once pm_asked_once an_asked_once cd_asked_once ct_asked_once), sl_asked_once⟩) (c_asked_once : PySem.W.codeIn K cd_asked_once "asked_once" = true) (k_asked_once : PySem.W.keepIn K (.ref f_asked_once) = true)
    {f_asked_some : Addr} {od_asked_some an_asked_some : Option Addr} {sl_asked_some : Array (Option Value)} {oc_asked_some kV_asked_some dc_asked_some pm_asked_some cd_asked_some ct_asked_some : Value} (a_asked_some : PySem.W.nsIn K mainGlobals "asked_some" = some (some (.ref f_asked_some))) (l_asked_some : K.lookup f_asked_some = some ⟨oc_asked_some, od_asked_some, .func (PySem.W.fnOf "asked_some" "asked_some" (defArgs st_asked_some) (defBody st_asked_some) (defScope st_asked_some) .none kV_asked_some dc_asked_some pm_asked_some an_asked_some cd_asked_some ct_asked_some), sl_asked_some⟩) (c_asked_some : PySem.W.codeIn K cd_asked_some "asked_some" = true) (k_asked_some : PySem.W.keepIn K (.ref f_asked_some) = true)
    {f_measured : Addr} {od_measured an_measured : Option Addr} {sl_measured : Array (Option Value)} {oc_measured kV_measured dc_measured pm_measured cd_measured ct_measured : Value} (a_measured : PySem.W.nsIn K mainGlobals "measured" = some (some (.ref f_measured))) (l_measured : K.lookup f_measured = some ⟨oc_measured, od_measured, .func (PySem.W.fnOf "measured" "measured" (defArgs st_measured) (defBody st_measured) (defScope st_measured) .none kV_measured dc_measured pm_measured an_measured cd_measured ct_measured), sl_measured⟩) (c_measured : PySem.W.codeIn K cd_measured "measured" = true) (k_measured : PySem.W.keepIn K (.ref f_measured) = true)
    {f_asked_sizes : Addr} {od_asked_sizes an_asked_sizes : Option Addr} {sl_asked_sizes : Array (Option Value)} {oc_asked_sizes kV_asked_sizes dc_asked_sizes pm_asked_sizes cd_asked_sizes ct_asked_sizes : Value} (a_asked_sizes : PySem.W.nsIn K mainGlobals "asked_sizes" = some (some (.ref f_asked_sizes))) (l_asked_sizes : K.lookup f_asked_sizes = some ⟨oc_asked_sizes, od_asked_sizes, .func (PySem.W.fnOf "asked_sizes" "asked_sizes" (defArgs st_asked_sizes) (defBody st_asked_sizes) (defScope st_asked_sizes) .none kV_asked_sizes dc_asked_sizes pm_asked_sizes an_asked_sizes cd_asked_sizes ct_asked_sizes), sl_asked_sizes⟩) (c_asked_sizes : PySem.W.codeIn K cd_asked_sizes "asked_sizes" = true) (k_asked_sizes : PySem.W.keepIn K (.ref f_asked_sizes) = true)
    {f_names_in : Addr} {od_names_in an_names_in : Option Addr} {sl_names_in : Array (Option Value)} {oc_names_in kV_names_in dc_names_in pm_names_in cd_names_in ct_names_in : Value} (a_names_in : PySem.W.nsIn K mainGlobals "names_in" = some (some (.ref f_names_in))) (l_names_in : K.lookup f_names_in = some ⟨oc_names_in, od_names_in, .func (PySem.W.fnOf "names_in" "names_in" (defArgs st_names_in) (defBody st_names_in) (defScope st_names_in) .none kV_names_in dc_names_in pm_names_in an_names_in cd_names_in ct_names_in), sl_names_in⟩) (c_names_in : PySem.W.codeIn K cd_names_in "names_in" = true) (k_names_in : PySem.W.keepIn K (.ref f_names_in) = true)
    {f_all_within : Addr} {od_all_within an_all_within : Option Addr} {sl_all_within : Array (Option Value)} {oc_all_within kV_all_within dc_all_within pm_all_within cd_all_within ct_all_within : Value} (a_all_within : PySem.W.nsIn K mainGlobals "all_within" = some (some (.ref f_all_within))) (l_all_within : K.lookup f_all_within = some ⟨oc_all_within, od_all_within, .func (PySem.W.fnOf "all_within" "all_within" (defArgs st_all_within) (defBody st_all_within) (defScope st_all_within) .none kV_all_within dc_all_within pm_all_within an_all_within cd_all_within ct_all_within), sl_all_within⟩) (c_all_within : PySem.W.codeIn K cd_all_within "all_within" = true) (k_all_within : PySem.W.keepIn K (.ref f_all_within) = true)
    {f_Program_statements : Addr} {od_Program_statements an_Program_statements : Option Addr} {sl_Program_statements : Array (Option Value)} {oc_Program_statements kV_Program_statements dc_Program_statements pm_Program_statements cd_Program_statements ct_Program_statements : Value} (l_Program_statements : K.lookup f_Program_statements = some ⟨oc_Program_statements, od_Program_statements, .func (PySem.W.fnOf "statements" "Program.statements" (defArgs st_Program_statements) (defBody st_Program_statements) (defScope st_Program_statements) .none kV_Program_statements dc_Program_statements pm_Program_statements an_Program_statements cd_Program_statements ct_Program_statements), sl_Program_statements⟩) (c_Program_statements : PySem.W.codeIn K cd_Program_statements "Program.statements" = true) (k_Program_statements : PySem.W.keepIn K (.ref f_Program_statements) = true)
    (n_Program_statements : PySem.W.isFn K (.ref f_Program_statements) = true)
    {f_Program___init__ : Addr} {od_Program___init__ an_Program___init__ : Option Addr} {sl_Program___init__ : Array (Option Value)} {oc_Program___init__ kV_Program___init__ dc_Program___init__ pm_Program___init__ cd_Program___init__ ct_Program___init__ : Value} (l_Program___init__ : K.lookup f_Program___init__ = some ⟨oc_Program___init__, od_Program___init__, .func (PySem.W.fnOf "__init__" "Program.__init__" (defArgs st_Program___init__) (defBody st_Program___init__) (defScope st_Program___init__) .none kV_Program___init__ dc_Program___init__ pm_Program___init__ an_Program___init__ cd_Program___init__ ct_Program___init__), sl_Program___init__⟩) (c_Program___init__ : PySem.W.codeIn K cd_Program___init__ "Program.__init__" = true) (k_Program___init__ : PySem.W.keepIn K (.ref f_Program___init__) = true)
    (n_Program___init__ : PySem.W.isFn K (.ref f_Program___init__) = true)
    {f_in_order : Addr} {od_in_order an_in_order : Option Addr} {sl_in_order : Array (Option Value)} {oc_in_order kV_in_order dc_in_order pm_in_order cd_in_order ct_in_order : Value} (a_in_order : PySem.W.nsIn K mainGlobals "in_order" = some (some (.ref f_in_order))) (l_in_order : K.lookup f_in_order = some ⟨oc_in_order, od_in_order, .func (PySem.W.fnOf "in_order" "in_order" (defArgs st_in_order) (defBody st_in_order) (defScope st_in_order) .none kV_in_order dc_in_order pm_in_order an_in_order cd_in_order ct_in_order), sl_in_order⟩) (c_in_order : PySem.W.codeIn K cd_in_order "in_order" = true) (k_in_order : PySem.W.keepIn K (.ref f_in_order) = true)
    {f_Form___init__ : Addr} {od_Form___init__ an_Form___init__ : Option Addr} {sl_Form___init__ : Array (Option Value)} {oc_Form___init__ kV_Form___init__ dc_Form___init__ pm_Form___init__ cd_Form___init__ ct_Form___init__ : Value} (l_Form___init__ : K.lookup f_Form___init__ = some ⟨oc_Form___init__, od_Form___init__, .func (PySem.W.fnOf "__init__" "Form.__init__" (defArgs st_Form___init__) (defBody st_Form___init__) (defScope st_Form___init__) .none kV_Form___init__ dc_Form___init__ pm_Form___init__ an_Form___init__ cd_Form___init__ ct_Form___init__), sl_Form___init__⟩) (c_Form___init__ : PySem.W.codeIn K cd_Form___init__ "Form.__init__" = true) (k_Form___init__ : PySem.W.keepIn K (.ref f_Form___init__) = true)
    (n_Form___init__ : PySem.W.isFn K (.ref f_Form___init__) = true)
    {f_Body___init__ : Addr} {od_Body___init__ an_Body___init__ : Option Addr} {sl_Body___init__ : Array (Option Value)} {oc_Body___init__ kV_Body___init__ dc_Body___init__ pm_Body___init__ cd_Body___init__ ct_Body___init__ : Value} (l_Body___init__ : K.lookup f_Body___init__ = some ⟨oc_Body___init__, od_Body___init__, .func (PySem.W.fnOf "__init__" "Body.__init__" (defArgs st_Body___init__) (defBody st_Body___init__) (defScope st_Body___init__) .none kV_Body___init__ dc_Body___init__ pm_Body___init__ an_Body___init__ cd_Body___init__ ct_Body___init__), sl_Body___init__⟩) (c_Body___init__ : PySem.W.codeIn K cd_Body___init__ "Body.__init__" = true) (k_Body___init__ : PySem.W.keepIn K (.ref f_Body___init__) = true)
    (n_Body___init__ : PySem.W.isFn K (.ref f_Body___init__) = true)
    {f_law : Addr} {od_law an_law : Option Addr} {sl_law : Array (Option Value)} {oc_law kV_law dc_law pm_law cd_law ct_law : Value} (a_law : PySem.W.nsIn K mainGlobals "law" = some (some (.ref f_law))) (l_law : K.lookup f_law = some ⟨oc_law, od_law, .func (PySem.W.fnOf "law" "law" (defArgs st_law) (defBody st_law) (defScope st_law) .none kV_law dc_law pm_law an_law cd_law ct_law), sl_law⟩) (c_law : PySem.W.codeIn K cd_law "law" = true) (k_law : PySem.W.keepIn K (.ref f_law) = true)
    {u_LETTERS : Value} (a_LETTERS : PySem.W.nsIn K mainGlobals "LETTERS" = some (some u_LETTERS)) (r_LETTERS : RelV (.str (S [97, 98, 99, 100, 101, 102, 103, 104, 105, 106, 107, 108, 109, 110, 111, 112, 113, 114, 115, 116, 117, 118, 119, 120, 121, 122])) u_LETTERS)
    {u_FIGURES : Value} (a_FIGURES : PySem.W.nsIn K mainGlobals "FIGURES" = some (some u_FIGURES)) (r_FIGURES : RelV (.str (S [48, 49, 50, 51, 52, 53, 54, 55, 56, 57])) u_FIGURES)
    {u_LONGEST : Value} (a_LONGEST : PySem.W.nsIn K mainGlobals "LONGEST" = some (some u_LONGEST)) (r_LONGEST : RelV (.int 8) u_LONGEST)
    {u_MOST_NAMES : Value} (a_MOST_NAMES : PySem.W.nsIn K mainGlobals "MOST_NAMES" = some (some u_MOST_NAMES)) (r_MOST_NAMES : RelV (.int 2) u_MOST_NAMES)
    {u_MOST_NUMBERS : Value} (a_MOST_NUMBERS : PySem.W.nsIn K mainGlobals "MOST_NUMBERS" = some (some u_MOST_NUMBERS)) (r_MOST_NUMBERS : RelV (.int 3) u_MOST_NUMBERS)
    {u_MOST_PARTS : Value} (a_MOST_PARTS : PySem.W.nsIn K mainGlobals "MOST_PARTS" = some (some u_MOST_PARTS)) (r_MOST_PARTS : RelV (.int 4) u_MOST_PARTS)
    {u_MOST_STATEMENTS : Value} (a_MOST_STATEMENTS : PySem.W.nsIn K mainGlobals "MOST_STATEMENTS" = some (some u_MOST_STATEMENTS)) (r_MOST_STATEMENTS : RelV (.int 20) u_MOST_STATEMENTS)
    {u_MOST_DEEP : Value} (a_MOST_DEEP : PySem.W.nsIn K mainGlobals "MOST_DEEP" = some (some u_MOST_DEEP)) (r_MOST_DEEP : RelV (.int 5) u_MOST_DEEP)
    {C_Form : Addr} (a_Form : PySem.W.nsIn K mainGlobals "Form" = some (some (.ref C_Form)))
    {C_Put : Addr} (a_Put : PySem.W.nsIn K mainGlobals "Put" = some (some (.ref C_Put)))
    {C_Any : Addr} (a_Any : PySem.W.nsIn K mainGlobals "Any" = some (some (.ref C_Any)))
    {C_Call : Addr} (a_Call : PySem.W.nsIn K mainGlobals "Call" = some (some (.ref C_Call)))
    {C_Body : Addr} (a_Body : PySem.W.nsIn K mainGlobals "Body" = some (some (.ref C_Body)))
    {C_Program : Addr} (a_Program : PySem.W.nsIn K mainGlobals "Program" = some (some (.ref C_Program)))
    (pg_Form : PySem.W.plainGet K C_Form Str.empty = true) (hd_Form : PySem.W.hasDictIn K C_Form = true) (po_Form : PySem.W.plainOver K C_Form = true) (sa_Form : PySem.W.findIn K (.ref C_Form) "__setattr__" = some (some (.builtin "object.__setattr__"))) (mk_Form : PySem.W.makesIn K C_Form = true) (kp_Form : PySem.W.keepIn K (.ref C_Form) = true)
    (fm_Form_degree : PySem.W.findIn K (.ref C_Form) "degree" = some (some (.ref f_Form_degree)))
    (fm_Form_init : PySem.W.findIn K (.ref C_Form) "__init__" = some (some (.ref f_Form___init__)))
    (na_Form_terms : PySem.W.findIn K (.ref C_Form) "terms" = some none)
    (cl_Form : PySem.W.findIn K (.ref C_Form) "__class__" = some (some (.builtin "object.__class__"))) (mr_Form : PySem.W.mroIn K C_Form (.type "object") = some true)
    (ko_Form_Any : PySem.W.kitOne K (.ref C_Form) (.ref C_Any) = some false)
    (ko_Form_Put : PySem.W.kitOne K (.ref C_Form) (.ref C_Put) = some false)
    (ko_Form_Call : PySem.W.kitOne K (.ref C_Form) (.ref C_Call) = some false)
    (pg_Body : PySem.W.plainGet K C_Body Str.empty = true) (hd_Body : PySem.W.hasDictIn K C_Body = true) (po_Body : PySem.W.plainOver K C_Body = true) (sa_Body : PySem.W.findIn K (.ref C_Body) "__setattr__" = some (some (.builtin "object.__setattr__"))) (mk_Body : PySem.W.makesIn K C_Body = true) (kp_Body : PySem.W.keepIn K (.ref C_Body) = true)
    (fm_Body_init : PySem.W.findIn K (.ref C_Body) "__init__" = some (some (.ref f_Body___init__)))
    (na_Body_row : PySem.W.findIn K (.ref C_Body) "row" = some none)
    (cl_Body : PySem.W.findIn K (.ref C_Body) "__class__" = some (some (.builtin "object.__class__"))) (mr_Body : PySem.W.mroIn K C_Body (.type "object") = some true)
    (ko_Body_Any : PySem.W.kitOne K (.ref C_Body) (.ref C_Any) = some false)
    (ko_Body_Put : PySem.W.kitOne K (.ref C_Body) (.ref C_Put) = some false)
    (ko_Body_Call : PySem.W.kitOne K (.ref C_Body) (.ref C_Call) = some false)
    (pg_Program : PySem.W.plainGet K C_Program Str.empty = true) (hd_Program : PySem.W.hasDictIn K C_Program = true) (po_Program : PySem.W.plainOver K C_Program = true) (sa_Program : PySem.W.findIn K (.ref C_Program) "__setattr__" = some (some (.builtin "object.__setattr__"))) (mk_Program : PySem.W.makesIn K C_Program = true) (kp_Program : PySem.W.keepIn K (.ref C_Program) = true)
    (fm_Program_names : PySem.W.findIn K (.ref C_Program) "names" = some (some (.ref f_Program_names)))
    (fm_Program_statements : PySem.W.findIn K (.ref C_Program) "statements" = some (some (.ref f_Program_statements)))
    (fm_Program_init : PySem.W.findIn K (.ref C_Program) "__init__" = some (some (.ref f_Program___init__)))
    (na_Program_number_names : PySem.W.findIn K (.ref C_Program) "number_names" = some none)
    (na_Program_bodies : PySem.W.findIn K (.ref C_Program) "bodies" = some none)
    (cl_Program : PySem.W.findIn K (.ref C_Program) "__class__" = some (some (.builtin "object.__class__"))) (mr_Program : PySem.W.mroIn K C_Program (.type "object") = some true)
    (ko_Program_Any : PySem.W.kitOne K (.ref C_Program) (.ref C_Any) = some false)
    (ko_Program_Put : PySem.W.kitOne K (.ref C_Program) (.ref C_Put) = some false)
    (ko_Program_Call : PySem.W.kitOne K (.ref C_Program) (.ref C_Call) = some false)
    (kb_NoneType_Any : PySem.W.kitOne K (.type "NoneType") (.ref C_Any) = some false)
    (kb_bool_Any : PySem.W.kitOne K (.type "bool") (.ref C_Any) = some false)
    (kb_int_Any : PySem.W.kitOne K (.type "int") (.ref C_Any) = some false)
    (kb_str_Any : PySem.W.kitOne K (.type "str") (.ref C_Any) = some false)
    (kb_tuple_Any : PySem.W.kitOne K (.type "tuple") (.ref C_Any) = some false)
    (kb_list_Any : PySem.W.kitOne K (.type "list") (.ref C_Any) = some false)
    (kb_NoneType_Put : PySem.W.kitOne K (.type "NoneType") (.ref C_Put) = some false)
    (kb_bool_Put : PySem.W.kitOne K (.type "bool") (.ref C_Put) = some false)
    (kb_int_Put : PySem.W.kitOne K (.type "int") (.ref C_Put) = some false)
    (kb_str_Put : PySem.W.kitOne K (.type "str") (.ref C_Put) = some false)
    (kb_tuple_Put : PySem.W.kitOne K (.type "tuple") (.ref C_Put) = some false)
    (kb_list_Put : PySem.W.kitOne K (.type "list") (.ref C_Put) = some false)
    (kb_NoneType_Call : PySem.W.kitOne K (.type "NoneType") (.ref C_Call) = some false)
    (kb_bool_Call : PySem.W.kitOne K (.type "bool") (.ref C_Call) = some false)
    (kb_int_Call : PySem.W.kitOne K (.type "int") (.ref C_Call) = some false)
    (kb_str_Call : PySem.W.kitOne K (.type "str") (.ref C_Call) = some false)
    (kb_tuple_Call : PySem.W.kitOne K (.type "tuple") (.ref C_Call) = some false)
    (kb_list_Call : PySem.W.kitOne K (.type "list") (.ref C_Call) = some false)
    {C_LineError : Addr} (a_LineError : PySem.W.nsIn K mainGlobals "LineError" = some (some (.ref C_LineError)))
    {C_BadCount : Addr} (a_BadCount : PySem.W.nsIn K mainGlobals "BadCount" = some (some (.ref C_BadCount)))
    {C_NoName : Addr} (a_NoName : PySem.W.nsIn K mainGlobals "NoName" = some (some (.ref C_NoName)))
    {C_Twice : Addr} (a_Twice : PySem.W.nsIn K mainGlobals "Twice" = some (some (.ref C_Twice)))
    {C_NoNumber : Addr} (a_NoNumber : PySem.W.nsIn K mainGlobals "NoNumber" = some (some (.ref C_NoNumber)))
    {C_NoPart : Addr} (a_NoPart : PySem.W.nsIn K mainGlobals "NoPart" = some (some (.ref C_NoPart)))
    (ex_LineError : PySem.W.subIn K (.ref C_LineError) (.type "BaseException") = some true) (ty_LineError : PySem.W.typeIn K (.ref C_LineError) = some (.type "type")) (ic_LineError : PySem.W.isClsIn K C_LineError = true)
    (ex_BadCount : PySem.W.subIn K (.ref C_BadCount) (.type "BaseException") = some true) (ty_BadCount : PySem.W.typeIn K (.ref C_BadCount) = some (.type "type")) (ic_BadCount : PySem.W.isClsIn K C_BadCount = true)
    (ex_NoName : PySem.W.subIn K (.ref C_NoName) (.type "BaseException") = some true) (ty_NoName : PySem.W.typeIn K (.ref C_NoName) = some (.type "type")) (ic_NoName : PySem.W.isClsIn K C_NoName = true)
    (ex_Twice : PySem.W.subIn K (.ref C_Twice) (.type "BaseException") = some true) (ty_Twice : PySem.W.typeIn K (.ref C_Twice) = some (.type "type")) (ic_Twice : PySem.W.isClsIn K C_Twice = true)
    (ex_NoNumber : PySem.W.subIn K (.ref C_NoNumber) (.type "BaseException") = some true) (ty_NoNumber : PySem.W.typeIn K (.ref C_NoNumber) = some (.type "type")) (ic_NoNumber : PySem.W.isClsIn K C_NoNumber = true)
    (ex_NoPart : PySem.W.subIn K (.ref C_NoPart) (.type "BaseException") = some true) (ty_NoPart : PySem.W.typeIn K (.ref C_NoPart) = some (.type "type")) (ic_NoPart : PySem.W.isClsIn K C_NoPart = true)
    {nm_BadCount q_BadCount : Str} {N_BadCount : Addr} {bs_BadCount bm_BadCount : List Value} {sn_BadCount : List Str} {sub_BadCount : List Value} {ab_BadCount : Bool} {col_BadCount : Option Bool} {dd_BadCount : Option Addr} {m0_BadCount m1_BadCount m2_BadCount m3_BadCount m5_BadCount : Option Value} (xL_BadCount : K.lookup C_BadCount = some (excClassObj nm_BadCount q_BadCount C_BadCount N_BadCount bs_BadCount bm_BadCount true sn_BadCount sub_BadCount ab_BadCount col_BadCount dd_BadCount m0_BadCount m1_BadCount m2_BadCount m3_BadCount m5_BadCount "ValueError.__new__")) (rv_BadCount : PySem.HandSPX.refsVE bm_BadCount = true)
    (sa_BadCount : PySem.W.findIn K (.ref C_BadCount) "__setattr__" = some (some (.builtin "object.__setattr__"))) (ga_BadCount : PySem.W.findIn K (.ref C_BadCount) "__getattribute__" = some (some (.builtin "BaseException.__getattribute__"))) (gg_BadCount : PySem.W.findIn K (.ref C_BadCount) "__getattr__" = some none) (kp_BadCount : PySem.W.keepIn K (.ref C_BadCount) = true) (hd_BadCount : PySem.W.hasDictIn K C_BadCount = true)
    {fi_BadCount : Addr} {od_BadCount an_BadCount : Option Addr} {sl_BadCount : Array (Option Value)} {oc_BadCount kV_BadCount dc_BadCount pm_BadCount cd_BadCount ct_BadCount : Value} (in_BadCount : PySem.W.findIn K (.ref C_BadCount) "__init__" = some (some (.ref fi_BadCount))) (ti_BadCount : PySem.W.typeIn K (.ref fi_BadCount) = some (.type "function")) (li_BadCount : K.lookup fi_BadCount = some ⟨oc_BadCount, od_BadCount, .func (PySem.W.fnOf "__init__" "BadCount.__init__" (defArgs st_BadCount) (defBody st_BadCount) (defScope st_BadCount) .none kV_BadCount dc_BadCount pm_BadCount an_BadCount cd_BadCount ct_BadCount), sl_BadCount⟩) (ci_BadCount : PySem.W.codeIn K cd_BadCount "BadCount.__init__" = true) (ki_BadCount : PySem.W.keepIn K (.ref fi_BadCount) = true)
    (no_BadCount_what : PySem.W.findIn K (.ref C_BadCount) "what" = some none)
    (no_BadCount_count : PySem.W.findIn K (.ref C_BadCount) "count" = some none)
    (cl_BadCount : PySem.W.findIn K (.ref C_BadCount) "__class__" = some (some (.builtin "object.__class__"))) (mr_BadCount : PySem.W.mroIn K C_BadCount (.type "object") = some true)
    (sb_BadCount_LineError : PySem.W.subIn K (.ref C_BadCount) (.ref C_LineError) = some true)
    (kt_BadCount_LineError : PySem.W.kitOne K (.ref C_BadCount) (.ref C_LineError) = some true)
    (sb_BadCount_BadCount : PySem.W.subIn K (.ref C_BadCount) (.ref C_BadCount) = some true)
    (kt_BadCount_BadCount : PySem.W.kitOne K (.ref C_BadCount) (.ref C_BadCount) = some true)
    (sb_BadCount_NoName : PySem.W.subIn K (.ref C_BadCount) (.ref C_NoName) = some false)
    (kt_BadCount_NoName : PySem.W.kitOne K (.ref C_BadCount) (.ref C_NoName) = some false)
    (sb_BadCount_NoNumber : PySem.W.subIn K (.ref C_BadCount) (.ref C_NoNumber) = some false)
    (kt_BadCount_NoNumber : PySem.W.kitOne K (.ref C_BadCount) (.ref C_NoNumber) = some false)
    (kt_BadCount_ValueError : PySem.W.kitOne K (.ref C_BadCount) (.type "ValueError") = some true)
    {nm_NoName q_NoName : Str} {N_NoName : Addr} {bs_NoName bm_NoName : List Value} {sn_NoName : List Str} {sub_NoName : List Value} {ab_NoName : Bool} {col_NoName : Option Bool} {dd_NoName : Option Addr} {m0_NoName m1_NoName m2_NoName m3_NoName m5_NoName : Option Value} (xL_NoName : K.lookup C_NoName = some (excClassObj nm_NoName q_NoName C_NoName N_NoName bs_NoName bm_NoName true sn_NoName sub_NoName ab_NoName col_NoName dd_NoName m0_NoName m1_NoName m2_NoName m3_NoName m5_NoName "ValueError.__new__")) (rv_NoName : PySem.HandSPX.refsVE bm_NoName = true)
    (sa_NoName : PySem.W.findIn K (.ref C_NoName) "__setattr__" = some (some (.builtin "object.__setattr__"))) (ga_NoName : PySem.W.findIn K (.ref C_NoName) "__getattribute__" = some (some (.builtin "BaseException.__getattribute__"))) (gg_NoName : PySem.W.findIn K (.ref C_NoName) "__getattr__" = some none) (kp_NoName : PySem.W.keepIn K (.ref C_NoName) = true) (hd_NoName : PySem.W.hasDictIn K C_NoName = true)
    {fi_NoName : Addr} {od_NoName an_NoName : Option Addr} {sl_NoName : Array (Option Value)} {oc_NoName kV_NoName dc_NoName pm_NoName cd_NoName ct_NoName : Value} (in_NoName : PySem.W.findIn K (.ref C_NoName) "__init__" = some (some (.ref fi_NoName))) (ti_NoName : PySem.W.typeIn K (.ref fi_NoName) = some (.type "function")) (li_NoName : K.lookup fi_NoName = some ⟨oc_NoName, od_NoName, .func (PySem.W.fnOf "__init__" "NoName.__init__" (defArgs st_NoName) (defBody st_NoName) (defScope st_NoName) .none kV_NoName dc_NoName pm_NoName an_NoName cd_NoName ct_NoName), sl_NoName⟩) (ci_NoName : PySem.W.codeIn K cd_NoName "NoName.__init__" = true) (ki_NoName : PySem.W.keepIn K (.ref fi_NoName) = true)
    (no_NoName_name : PySem.W.findIn K (.ref C_NoName) "name" = some none)
    (cl_NoName : PySem.W.findIn K (.ref C_NoName) "__class__" = some (some (.builtin "object.__class__"))) (mr_NoName : PySem.W.mroIn K C_NoName (.type "object") = some true)
    (sb_NoName_LineError : PySem.W.subIn K (.ref C_NoName) (.ref C_LineError) = some true)
    (kt_NoName_LineError : PySem.W.kitOne K (.ref C_NoName) (.ref C_LineError) = some true)
    (sb_NoName_BadCount : PySem.W.subIn K (.ref C_NoName) (.ref C_BadCount) = some false)
    (kt_NoName_BadCount : PySem.W.kitOne K (.ref C_NoName) (.ref C_BadCount) = some false)
    (sb_NoName_NoName : PySem.W.subIn K (.ref C_NoName) (.ref C_NoName) = some true)
    (kt_NoName_NoName : PySem.W.kitOne K (.ref C_NoName) (.ref C_NoName) = some true)
    (sb_NoName_NoNumber : PySem.W.subIn K (.ref C_NoName) (.ref C_NoNumber) = some false)
    (kt_NoName_NoNumber : PySem.W.kitOne K (.ref C_NoName) (.ref C_NoNumber) = some false)
    (kt_NoName_ValueError : PySem.W.kitOne K (.ref C_NoName) (.type "ValueError") = some true)
    {nm_Twice q_Twice : Str} {N_Twice : Addr} {bs_Twice bm_Twice : List Value} {sn_Twice : List Str} {sub_Twice : List Value} {ab_Twice : Bool} {col_Twice : Option Bool} {dd_Twice : Option Addr} {m0_Twice m1_Twice m2_Twice m3_Twice m5_Twice : Option Value} (xL_Twice : K.lookup C_Twice = some (excClassObj nm_Twice q_Twice C_Twice N_Twice bs_Twice bm_Twice true sn_Twice sub_Twice ab_Twice col_Twice dd_Twice m0_Twice m1_Twice m2_Twice m3_Twice m5_Twice "ValueError.__new__")) (rv_Twice : PySem.HandSPX.refsVE bm_Twice = true)
    (sa_Twice : PySem.W.findIn K (.ref C_Twice) "__setattr__" = some (some (.builtin "object.__setattr__"))) (ga_Twice : PySem.W.findIn K (.ref C_Twice) "__getattribute__" = some (some (.builtin "BaseException.__getattribute__"))) (gg_Twice : PySem.W.findIn K (.ref C_Twice) "__getattr__" = some none) (kp_Twice : PySem.W.keepIn K (.ref C_Twice) = true) (hd_Twice : PySem.W.hasDictIn K C_Twice = true)
    {fi_Twice : Addr} {od_Twice an_Twice : Option Addr} {sl_Twice : Array (Option Value)} {oc_Twice kV_Twice dc_Twice pm_Twice cd_Twice ct_Twice : Value} (in_Twice : PySem.W.findIn K (.ref C_Twice) "__init__" = some (some (.ref fi_Twice))) (ti_Twice : PySem.W.typeIn K (.ref fi_Twice) = some (.type "function")) (li_Twice : K.lookup fi_Twice = some ⟨oc_Twice, od_Twice, .func (PySem.W.fnOf "__init__" "Twice.__init__" (defArgs st_Twice) (defBody st_Twice) (defScope st_Twice) .none kV_Twice dc_Twice pm_Twice an_Twice cd_Twice ct_Twice), sl_Twice⟩) (ci_Twice : PySem.W.codeIn K cd_Twice "Twice.__init__" = true) (ki_Twice : PySem.W.keepIn K (.ref fi_Twice) = true)
    (no_Twice_name : PySem.W.findIn K (.ref C_Twice) "name" = some none)
    (cl_Twice : PySem.W.findIn K (.ref C_Twice) "__class__" = some (some (.builtin "object.__class__"))) (mr_Twice : PySem.W.mroIn K C_Twice (.type "object") = some true)
    (sb_Twice_LineError : PySem.W.subIn K (.ref C_Twice) (.ref C_LineError) = some true)
    (kt_Twice_LineError : PySem.W.kitOne K (.ref C_Twice) (.ref C_LineError) = some true)
    (sb_Twice_BadCount : PySem.W.subIn K (.ref C_Twice) (.ref C_BadCount) = some false)
    (kt_Twice_BadCount : PySem.W.kitOne K (.ref C_Twice) (.ref C_BadCount) = some false)
    (sb_Twice_NoName : PySem.W.subIn K (.ref C_Twice) (.ref C_NoName) = some false)
    (kt_Twice_NoName : PySem.W.kitOne K (.ref C_Twice) (.ref C_NoName) = some false)
    (sb_Twice_NoNumber : PySem.W.subIn K (.ref C_Twice) (.ref C_NoNumber) = some false)
    (kt_Twice_NoNumber : PySem.W.kitOne K (.ref C_Twice) (.ref C_NoNumber) = some false)
    (kt_Twice_ValueError : PySem.W.kitOne K (.ref C_Twice) (.type "ValueError") = some true)
    {nm_NoNumber q_NoNumber : Str} {N_NoNumber : Addr} {bs_NoNumber bm_NoNumber : List Value} {sn_NoNumber : List Str} {sub_NoNumber : List Value} {ab_NoNumber : Bool} {col_NoNumber : Option Bool} {dd_NoNumber : Option Addr} {m0_NoNumber m1_NoNumber m2_NoNumber m3_NoNumber m5_NoNumber : Option Value} (xL_NoNumber : K.lookup C_NoNumber = some (excClassObj nm_NoNumber q_NoNumber C_NoNumber N_NoNumber bs_NoNumber bm_NoNumber true sn_NoNumber sub_NoNumber ab_NoNumber col_NoNumber dd_NoNumber m0_NoNumber m1_NoNumber m2_NoNumber m3_NoNumber m5_NoNumber "ValueError.__new__")) (rv_NoNumber : PySem.HandSPX.refsVE bm_NoNumber = true)
    (sa_NoNumber : PySem.W.findIn K (.ref C_NoNumber) "__setattr__" = some (some (.builtin "object.__setattr__"))) (ga_NoNumber : PySem.W.findIn K (.ref C_NoNumber) "__getattribute__" = some (some (.builtin "BaseException.__getattribute__"))) (gg_NoNumber : PySem.W.findIn K (.ref C_NoNumber) "__getattr__" = some none) (kp_NoNumber : PySem.W.keepIn K (.ref C_NoNumber) = true) (hd_NoNumber : PySem.W.hasDictIn K C_NoNumber = true)
    {fi_NoNumber : Addr} {od_NoNumber an_NoNumber : Option Addr} {sl_NoNumber : Array (Option Value)} {oc_NoNumber kV_NoNumber dc_NoNumber pm_NoNumber cd_NoNumber ct_NoNumber : Value} (in_NoNumber : PySem.W.findIn K (.ref C_NoNumber) "__init__" = some (some (.ref fi_NoNumber))) (ti_NoNumber : PySem.W.typeIn K (.ref fi_NoNumber) = some (.type "function")) (li_NoNumber : K.lookup fi_NoNumber = some ⟨oc_NoNumber, od_NoNumber, .func (PySem.W.fnOf "__init__" "NoNumber.__init__" (defArgs st_NoNumber) (defBody st_NoNumber) (defScope st_NoNumber) .none kV_NoNumber dc_NoNumber pm_NoNumber an_NoNumber cd_NoNumber ct_NoNumber), sl_NoNumber⟩) (ci_NoNumber : PySem.W.codeIn K cd_NoNumber "NoNumber.__init__" = true) (ki_NoNumber : PySem.W.keepIn K (.ref fi_NoNumber) = true)
    (no_NoNumber_name : PySem.W.findIn K (.ref C_NoNumber) "name" = some none)
    (cl_NoNumber : PySem.W.findIn K (.ref C_NoNumber) "__class__" = some (some (.builtin "object.__class__"))) (mr_NoNumber : PySem.W.mroIn K C_NoNumber (.type "object") = some true)
    (sb_NoNumber_LineError : PySem.W.subIn K (.ref C_NoNumber) (.ref C_LineError) = some true)
    (kt_NoNumber_LineError : PySem.W.kitOne K (.ref C_NoNumber) (.ref C_LineError) = some true)
    (sb_NoNumber_BadCount : PySem.W.subIn K (.ref C_NoNumber) (.ref C_BadCount) = some false)
    (kt_NoNumber_BadCount : PySem.W.kitOne K (.ref C_NoNumber) (.ref C_BadCount) = some false)
    (sb_NoNumber_NoName : PySem.W.subIn K (.ref C_NoNumber) (.ref C_NoName) = some false)
    (kt_NoNumber_NoName : PySem.W.kitOne K (.ref C_NoNumber) (.ref C_NoName) = some false)
    (sb_NoNumber_NoNumber : PySem.W.subIn K (.ref C_NoNumber) (.ref C_NoNumber) = some true)
    (kt_NoNumber_NoNumber : PySem.W.kitOne K (.ref C_NoNumber) (.ref C_NoNumber) = some true)
    (kt_NoNumber_ValueError : PySem.W.kitOne K (.ref C_NoNumber) (.type "ValueError") = some true)
    {nm_NoPart q_NoPart : Str} {N_NoPart : Addr} {bs_NoPart bm_NoPart : List Value} {sn_NoPart : List Str} {sub_NoPart : List Value} {ab_NoPart : Bool} {col_NoPart : Option Bool} {dd_NoPart : Option Addr} {m0_NoPart m1_NoPart m2_NoPart m3_NoPart m5_NoPart : Option Value} (xL_NoPart : K.lookup C_NoPart = some (excClassObj nm_NoPart q_NoPart C_NoPart N_NoPart bs_NoPart bm_NoPart true sn_NoPart sub_NoPart ab_NoPart col_NoPart dd_NoPart m0_NoPart m1_NoPart m2_NoPart m3_NoPart m5_NoPart "ValueError.__new__")) (rv_NoPart : PySem.HandSPX.refsVE bm_NoPart = true)
    (sa_NoPart : PySem.W.findIn K (.ref C_NoPart) "__setattr__" = some (some (.builtin "object.__setattr__"))) (ga_NoPart : PySem.W.findIn K (.ref C_NoPart) "__getattribute__" = some (some (.builtin "BaseException.__getattribute__"))) (gg_NoPart : PySem.W.findIn K (.ref C_NoPart) "__getattr__" = some none) (kp_NoPart : PySem.W.keepIn K (.ref C_NoPart) = true) (hd_NoPart : PySem.W.hasDictIn K C_NoPart = true)
    {fi_NoPart : Addr} {od_NoPart an_NoPart : Option Addr} {sl_NoPart : Array (Option Value)} {oc_NoPart kV_NoPart dc_NoPart pm_NoPart cd_NoPart ct_NoPart : Value} (in_NoPart : PySem.W.findIn K (.ref C_NoPart) "__init__" = some (some (.ref fi_NoPart))) (ti_NoPart : PySem.W.typeIn K (.ref fi_NoPart) = some (.type "function")) (li_NoPart : K.lookup fi_NoPart = some ⟨oc_NoPart, od_NoPart, .func (PySem.W.fnOf "__init__" "NoPart.__init__" (defArgs st_NoPart) (defBody st_NoPart) (defScope st_NoPart) .none kV_NoPart dc_NoPart pm_NoPart an_NoPart cd_NoPart ct_NoPart), sl_NoPart⟩) (ci_NoPart : PySem.W.codeIn K cd_NoPart "NoPart.__init__" = true) (ki_NoPart : PySem.W.keepIn K (.ref fi_NoPart) = true)
    (no_NoPart_name : PySem.W.findIn K (.ref C_NoPart) "name" = some none)
    (cl_NoPart : PySem.W.findIn K (.ref C_NoPart) "__class__" = some (some (.builtin "object.__class__"))) (mr_NoPart : PySem.W.mroIn K C_NoPart (.type "object") = some true)
    (sb_NoPart_LineError : PySem.W.subIn K (.ref C_NoPart) (.ref C_LineError) = some true)
    (kt_NoPart_LineError : PySem.W.kitOne K (.ref C_NoPart) (.ref C_LineError) = some true)
    (sb_NoPart_BadCount : PySem.W.subIn K (.ref C_NoPart) (.ref C_BadCount) = some false)
    (kt_NoPart_BadCount : PySem.W.kitOne K (.ref C_NoPart) (.ref C_BadCount) = some false)
    (sb_NoPart_NoName : PySem.W.subIn K (.ref C_NoPart) (.ref C_NoName) = some false)
    (kt_NoPart_NoName : PySem.W.kitOne K (.ref C_NoPart) (.ref C_NoName) = some false)
    (sb_NoPart_NoNumber : PySem.W.subIn K (.ref C_NoPart) (.ref C_NoNumber) = some false)
    (kt_NoPart_NoNumber : PySem.W.kitOne K (.ref C_NoPart) (.ref C_NoNumber) = some false)
    (kt_NoPart_ValueError : PySem.W.kitOne K (.ref C_NoPart) (.type "ValueError") = some true)
    (spc : PySem.W.specialIn K (.builtin "object.__class__") "__get__" = some (some (.builtin "getset_descriptor.__get__"))) (tkc : PySem.W.takesIn K (.builtin "object.__class__") = some true)
    (z_abs : PySem.W.nsIn K mainGlobals "abs" = some none)
    (z_int : PySem.W.nsIn K mainGlobals "int" = some none)
    (z_range : PySem.W.nsIn K mainGlobals "range" = some none)
    (z_str : PySem.W.nsIn K mainGlobals "str" = some none)
    (z_len : PySem.W.nsIn K mainGlobals "len" = some none)
    (z_sorted : PySem.W.nsIn K mainGlobals "sorted" = some none)
    (z_set : PySem.W.nsIn K mainGlobals "set" = some none)
    (z_tuple : PySem.W.nsIn K mainGlobals "tuple" = some none)
    (z_list : PySem.W.nsIn K mainGlobals "list" = some none)
    (z_max : PySem.W.nsIn K mainGlobals "max" = some none)
    (z_enumerate : PySem.W.nsIn K mainGlobals "enumerate" = some none)
    (z_isinstance : PySem.W.nsIn K mainGlobals "isinstance" = some none)
    (z_all : PySem.W.nsIn K mainGlobals "all" = some none)
    (z_sum : PySem.W.nsIn K mainGlobals "sum" = some none)
    (z_ValueError : PySem.W.nsIn K mainGlobals "ValueError" = some none)
    :
    ∃ fd : FuncData, (∀ (s : Shared) (v : Value), BindsTo s fd ⟨[v], []⟩ [("_law_script", v)]) ∧ ∀ base : Heap, K.In base → base.Ns mainGlobals mg → (∀ p ∈ tabsC K, LamX.TabB base mg p.1 p.2) → FnOk P w K mg base (L2.CX P w) 16 fa fd ["_law_script"] (spLaw K) := by
  have e := hfa.symm.trans (PySem.W.mg_of X G a_law)
  cases e
  have Q_law_state := fun_mk (st := st_law_state) l_law_state c_law_state k_law_state
  have b_law_state := Q_law_state.binds (ps := ["_law_cell"]) fun _ _ _ _ _ _ us hl => match us, hl with | [_], _ => rfl
  have Q_law_digit := fun_mk (st := st_law_digit) l_law_digit c_law_digit k_law_digit
  have b_law_digit := Q_law_digit.binds (ps := ["_law_state_here", "_law_base"]) fun _ _ _ _ _ _ us hl => match us, hl with | [_, _], _ => rfl
  have Q_law_name := fun_mk (st := st_law_name) l_law_name c_law_name k_law_name
  have b_law_name := Q_law_name.binds (ps := ["_law_s", "_law_taken"]) fun _ _ _ _ _ _ us hl => match us, hl with | [_, _], _ => rfl
  have Q_law_names := fun_mk (st := st_law_names) l_law_names c_law_names k_law_names
  have b_law_names := Q_law_names.binds (ps := ["_law_s", "_law_many"]) fun _ _ _ _ _ _ us hl => match us, hl with | [_, _], _ => rfl
  have Q_law_terms := fun_mk (st := st_law_terms) l_law_terms c_law_terms k_law_terms
  have b_law_terms := Q_law_terms.binds (ps := ["_law_s", "_law_names_here"]) fun _ _ _ _ _ _ us hl => match us, hl with | [_, _], _ => rfl
  have Q_law_sorted := fun_mk (st := st_law_sorted) l_law_sorted c_law_sorted k_law_sorted
  have b_law_sorted := Q_law_sorted.binds (ps := ["_law_terms_here"]) fun _ _ _ _ _ _ us hl => match us, hl with | [_], _ => rfl
  have Q_law_due := fun_mk (st := st_law_due) l_law_due c_law_due k_law_due
  have b_law_due := Q_law_due.binds (ps := ["_law_names_here", "_law_terms_here", "_law_degree"]) fun _ _ _ _ _ _ us hl => match us, hl with | [_, _, _], _ => rfl
  have Q_asked_degree := fun_mk (st := st_asked_degree) l_asked_degree c_asked_degree k_asked_degree
  have b_asked_degree := Q_asked_degree.binds (ps := ["names", "degree"]) fun _ _ _ _ _ _ us hl => match us, hl with | [_, _], _ => rfl
  have Q_Program_names := fun_mk (st := st_Program_names) l_Program_names c_Program_names k_Program_names
  have b_Program_names := Q_Program_names.binds (ps := ["self"]) fun _ _ _ _ _ _ us hl => match us, hl with | [_], _ => rfl
  have Q_asked_names_of := fun_mk (st := st_asked_names_of) l_asked_names_of c_asked_names_of k_asked_names_of
  have b_asked_names_of := Q_asked_names_of.binds (ps := ["program", "form"]) fun _ _ _ _ _ _ us hl => match us, hl with | [_, _], _ => rfl
  have Q_products := fun_mk (st := st_products) l_products c_products k_products
  have b_products := Q_products.binds (ps := ["names"]) fun _ _ _ _ _ _ us hl => match us, hl with | [_], _ => rfl
  have Q_columns := fun_mk (st := st_columns) l_columns c_columns k_columns
  have b_columns := Q_columns.binds (ps := ["names", "degree"]) fun _ _ _ _ _ _ us hl => match us, hl with | [_, _], _ => rfl
  have Q_Form_degree := fun_mk (st := st_Form_degree) l_Form_degree c_Form_degree k_Form_degree
  have b_Form_degree := Q_Form_degree.binds (ps := ["self"]) fun _ _ _ _ _ _ us hl => match us, hl with | [_], _ => rfl
  have Q_row_of := fun_mk (st := st_row_of) l_row_of c_row_of k_row_of
  have b_row_of := Q_row_of.binds (ps := ["program", "form", "degree"]) fun _ _ _ _ _ _ us hl => match us, hl with | [_, _, _], _ => rfl
  have Q_law_found := fun_mk (st := st_law_found) l_law_found c_law_found k_law_found
  have b_law_found := Q_law_found.binds (ps := ["_law_program", "_law_form", "_law_degree"]) fun _ _ _ _ _ _ us hl => match us, hl with | [_, _, _], _ => rfl
  have Q_is_name := fun_mk (st := st_is_name) l_is_name c_is_name k_is_name
  have b_is_name := Q_is_name.binds (ps := ["text"]) fun _ _ _ _ _ _ us hl => match us, hl with | [_], _ => rfl
  have Q_asked_names := fun_mk (st := st_asked_names) l_asked_names c_asked_names k_asked_names
  have b_asked_names := Q_asked_names.binds (ps := ["texts"]) fun _ _ _ _ _ _ us hl => match us, hl with | [_], _ => rfl
  have Q_asked_once := fun_mk (st := st_asked_once) l_asked_once c_asked_once k_asked_once
  have b_asked_once := Q_asked_once.binds (ps := ["names"]) fun _ _ _ _ _ _ us hl => match us, hl with | [_], _ => rfl
  have Q_asked_some := fun_mk (st := st_asked_some) l_asked_some c_asked_some k_asked_some
  have b_asked_some := Q_asked_some.binds (ps := ["what", "names", "most"]) fun _ _ _ _ _ _ us hl => match us, hl with | [_, _, _], _ => rfl
  have Q_measured := fun_mk (st := st_measured) l_measured c_measured k_measured
  have b_measured := Q_measured.binds (ps := ["body"]) fun _ _ _ _ _ _ us hl => match us, hl with | [_], _ => rfl
  have Q_asked_sizes := fun_mk (st := st_asked_sizes) l_asked_sizes c_asked_sizes k_asked_sizes
  have b_asked_sizes := Q_asked_sizes.binds (ps := ["bodies"]) fun _ _ _ _ _ _ us hl => match us, hl with | [_], _ => rfl
  have Q_names_in := fun_mk (st := st_names_in) l_names_in c_names_in k_names_in
  have b_names_in := Q_names_in.binds (ps := ["statement"]) fun _ _ _ _ _ _ us hl => match us, hl with | [_], _ => rfl
  have Q_all_within := fun_mk (st := st_all_within) l_all_within c_all_within k_all_within
  have b_all_within := Q_all_within.binds (ps := ["body"]) fun _ _ _ _ _ _ us hl => match us, hl with | [_], _ => rfl
  have Q_Program_statements := fun_mk (st := st_Program_statements) l_Program_statements c_Program_statements k_Program_statements
  have b_Program_statements := Q_Program_statements.binds (ps := ["self"]) fun _ _ _ _ _ _ us hl => match us, hl with | [_], _ => rfl
  have Q_Program___init__ := fun_mk (st := st_Program___init__) l_Program___init__ c_Program___init__ k_Program___init__
  have b_Program___init__ := Q_Program___init__.binds (ps := ["self", "names", "parts"]) fun _ _ _ _ _ _ us hl => match us, hl with | [_, _, _], _ => rfl
  have Q_in_order := fun_mk (st := st_in_order) l_in_order c_in_order k_in_order
  have b_in_order := Q_in_order.binds (ps := ["names"]) fun _ _ _ _ _ _ us hl => match us, hl with | [_], _ => rfl
  have Q_Form___init__ := fun_mk (st := st_Form___init__) l_Form___init__ c_Form___init__ k_Form___init__
  have b_Form___init__ := Q_Form___init__.binds (ps := ["self", "terms"]) fun _ _ _ _ _ _ us hl => match us, hl with | [_, _], _ => rfl
  have Q_Body___init__ := fun_mk (st := st_Body___init__) l_Body___init__ c_Body___init__ k_Body___init__
  have b_Body___init__ := Q_Body___init__.binds (ps := ["self", "statements"]) fun _ _ _ _ _ _ us hl => match us, hl with | [_, _], _ => rfl
  have Q_law := fun_mk (st := st_law) l_law c_law k_law
  refine ⟨PySem.W.fnOf "law" "law" (defArgs st_law) (defBody st_law) (defScope st_law) .none kV_law dc_law pm_law an_law cd_law ct_law, fun s v => .of_eq rfl, fun base hKb hnb TB => ?_⟩
  have m_abs := PySem.W.mg_none_of X G z_abs
  have m_int := PySem.W.mg_none_of X G z_int
  have m_range := PySem.W.mg_none_of X G z_range
  have m_str := PySem.W.mg_none_of X G z_str
  have m_len := PySem.W.mg_none_of X G z_len
  have m_sorted := PySem.W.mg_none_of X G z_sorted
  have m_set := PySem.W.mg_none_of X G z_set
  have m_tuple := PySem.W.mg_none_of X G z_tuple
  have m_list := PySem.W.mg_none_of X G z_list
  have m_max := PySem.W.mg_none_of X G z_max
  have m_enumerate := PySem.W.mg_none_of X G z_enumerate
  have m_isinstance := PySem.W.mg_none_of X G z_isinstance
  have m_all := PySem.W.mg_none_of X G z_all
  have m_sum := PySem.W.mg_none_of X G z_sum
  have m_ValueError := PySem.W.mg_none_of X G z_ValueError
  have g_LETTERS := PySem.W.mg_of X G a_LETTERS
  have g_FIGURES := PySem.W.mg_of X G a_FIGURES
  have g_LONGEST := PySem.W.mg_of X G a_LONGEST
  have g_MOST_NAMES := PySem.W.mg_of X G a_MOST_NAMES
  have g_MOST_NUMBERS := PySem.W.mg_of X G a_MOST_NUMBERS
  have g_MOST_PARTS := PySem.W.mg_of X G a_MOST_PARTS
  have g_MOST_STATEMENTS := PySem.W.mg_of X G a_MOST_STATEMENTS
  have g_MOST_DEEP := PySem.W.mg_of X G a_MOST_DEEP
  have g_Form := PySem.W.mg_of X G a_Form
  have g_Put := PySem.W.mg_of X G a_Put
  have g_Any := PySem.W.mg_of X G a_Any
  have g_Call := PySem.W.mg_of X G a_Call
  have g_Body := PySem.W.mg_of X G a_Body
  have g_Program := PySem.W.mg_of X G a_Program
  have g_LineError := PySem.W.mg_of X G a_LineError
  have g_BadCount := PySem.W.mg_of X G a_BadCount
  have g_NoName := PySem.W.mg_of X G a_NoName
  have g_Twice := PySem.W.mg_of X G a_Twice
  have g_NoNumber := PySem.W.mg_of X G a_NoNumber
  have g_NoPart := PySem.W.mg_of X G a_NoPart
  have C1_Form : Cls K C_Form := ⟨pg_Form, hd_Form, po_Form, sa_Form⟩
  have C1_Body : Cls K C_Body := ⟨pg_Body, hd_Body, po_Body, sa_Body⟩
  have C1_Program : Cls K C_Program := ⟨pg_Program, hd_Program, po_Program, sa_Program⟩
  have A_number_names : AtT K mg "number_names" ["Program"] := (AtT.cons g_Program C1_Program na_Program_number_names AtT.nil)
  have A_terms : AtT K mg "terms" ["Form"] := (AtT.cons g_Form C1_Form na_Form_terms AtT.nil)
  have A_row : AtT K mg "row" ["Body"] := (AtT.cons g_Body C1_Body na_Body_row AtT.nil)
  have A_name : AtT K mg "name" [] := AtT.nil
  have A_form : AtT K mg "form" [] := AtT.nil
  have A_bodies : AtT K mg "bodies" ["Program"] := (AtT.cons g_Program C1_Program na_Program_bodies AtT.nil)
  have A_part : AtT K mg "part" [] := AtT.nil
  have I1_Form : InsK K C_Form := ⟨C1_Form, cl_Form, spc, tkc, mr_Form⟩
  have I1_Body : InsK K C_Body := ⟨C1_Body, cl_Body, spc, tkc, mr_Body⟩
  have I1_Program : InsK K C_Program := ⟨C1_Program, cl_Program, spc, tkc, mr_Program⟩
  have I_Any : IsoOk K mg iso_Any := ⟨_, g_Any, (IsoT.cons g_Form I1_Form ko_Form_Any (IsoT.cons g_Body I1_Body ko_Body_Any (IsoT.cons g_Program I1_Program ko_Program_Any IsoT.nil))), (IsoU.cons kb_NoneType_Any (IsoU.cons kb_bool_Any (IsoU.cons kb_int_Any (IsoU.cons kb_str_Any (IsoU.cons kb_tuple_Any (IsoU.cons kb_list_Any IsoU.nil))))))⟩
  have I_Put : IsoOk K mg iso_Put := ⟨_, g_Put, (IsoT.cons g_Form I1_Form ko_Form_Put (IsoT.cons g_Body I1_Body ko_Body_Put (IsoT.cons g_Program I1_Program ko_Program_Put IsoT.nil))), (IsoU.cons kb_NoneType_Put (IsoU.cons kb_bool_Put (IsoU.cons kb_int_Put (IsoU.cons kb_str_Put (IsoU.cons kb_tuple_Put (IsoU.cons kb_list_Put IsoU.nil))))))⟩
  have I_Call : IsoOk K mg iso_Call := ⟨_, g_Call, (IsoT.cons g_Form I1_Form ko_Form_Call (IsoT.cons g_Body I1_Body ko_Body_Call (IsoT.cons g_Program I1_Program ko_Program_Call IsoT.nil))), (IsoU.cons kb_NoneType_Call (IsoU.cons kb_bool_Call (IsoU.cons kb_int_Call (IsoU.cons kb_str_Call (IsoU.cons kb_tuple_Call (IsoU.cons kb_list_Call IsoU.nil))))))⟩
  have T_BadCount : OexC K C_BadCount := ⟨⟨_, _, _, _, _, _, _, _, _, _, _, _, _, _, _, xL_BadCount, rv_BadCount⟩, sa_BadCount, ex_BadCount, ty_BadCount, kp_BadCount⟩
  have QI_BadCount := fun_mk (st := st_BadCount) li_BadCount ci_BadCount ki_BadCount
  have bI_BadCount := QI_BadCount.binds (ps := ["self", "what", "count"]) fun _ _ _ _ _ _ us hl => match us, hl with | [_, _, _], _ => rfl
  have R_BadCount : XMk P w K mg base "BadCount" ["self", "what", "count"] ["what", "count"] := ⟨C_BadCount, fi_BadCount, _, T_BadCount, in_BadCount, ti_BadCount, okI_BadCount T_BadCount (by simp only [List.forall_mem_cons, List.forall_mem_nil, List.not_mem_nil, false_implies, implies_true]; exact ⟨no_BadCount_what, no_BadCount_count, trivial⟩) QI_BadCount, bI_BadCount, g_BadCount⟩
  have xc_BadCount : XfC K C_BadCount := ⟨ga_BadCount, gg_BadCount, ex_BadCount, hd_BadCount⟩
  have xk_BadCount : ExcK K C_BadCount := ⟨ic_BadCount, ga_BadCount, gg_BadCount, ex_BadCount, cl_BadCount, spc, tkc, mr_BadCount⟩
  have T_NoName : OexC K C_NoName := ⟨⟨_, _, _, _, _, _, _, _, _, _, _, _, _, _, _, xL_NoName, rv_NoName⟩, sa_NoName, ex_NoName, ty_NoName, kp_NoName⟩
  have QI_NoName := fun_mk (st := st_NoName) li_NoName ci_NoName ki_NoName
  have bI_NoName := QI_NoName.binds (ps := ["self", "name"]) fun _ _ _ _ _ _ us hl => match us, hl with | [_, _], _ => rfl
  have R_NoName : XMk P w K mg base "NoName" ["self", "name"] ["name"] := ⟨C_NoName, fi_NoName, _, T_NoName, in_NoName, ti_NoName, okI_NoName T_NoName (by simp only [List.forall_mem_cons, List.forall_mem_nil, List.not_mem_nil, false_implies, implies_true]; exact ⟨no_NoName_name, trivial⟩) QI_NoName, bI_NoName, g_NoName⟩
  have xc_NoName : XfC K C_NoName := ⟨ga_NoName, gg_NoName, ex_NoName, hd_NoName⟩
  have xk_NoName : ExcK K C_NoName := ⟨ic_NoName, ga_NoName, gg_NoName, ex_NoName, cl_NoName, spc, tkc, mr_NoName⟩
  have T_Twice : OexC K C_Twice := ⟨⟨_, _, _, _, _, _, _, _, _, _, _, _, _, _, _, xL_Twice, rv_Twice⟩, sa_Twice, ex_Twice, ty_Twice, kp_Twice⟩
  have QI_Twice := fun_mk (st := st_Twice) li_Twice ci_Twice ki_Twice
  have bI_Twice := QI_Twice.binds (ps := ["self", "name"]) fun _ _ _ _ _ _ us hl => match us, hl with | [_, _], _ => rfl
  have R_Twice : XMk P w K mg base "Twice" ["self", "name"] ["name"] := ⟨C_Twice, fi_Twice, _, T_Twice, in_Twice, ti_Twice, okI_Twice T_Twice (by simp only [List.forall_mem_cons, List.forall_mem_nil, List.not_mem_nil, false_implies, implies_true]; exact ⟨no_Twice_name, trivial⟩) QI_Twice, bI_Twice, g_Twice⟩
  have xc_Twice : XfC K C_Twice := ⟨ga_Twice, gg_Twice, ex_Twice, hd_Twice⟩
  have xk_Twice : ExcK K C_Twice := ⟨ic_Twice, ga_Twice, gg_Twice, ex_Twice, cl_Twice, spc, tkc, mr_Twice⟩
  have T_NoNumber : OexC K C_NoNumber := ⟨⟨_, _, _, _, _, _, _, _, _, _, _, _, _, _, _, xL_NoNumber, rv_NoNumber⟩, sa_NoNumber, ex_NoNumber, ty_NoNumber, kp_NoNumber⟩
  have QI_NoNumber := fun_mk (st := st_NoNumber) li_NoNumber ci_NoNumber ki_NoNumber
  have bI_NoNumber := QI_NoNumber.binds (ps := ["self", "name"]) fun _ _ _ _ _ _ us hl => match us, hl with | [_, _], _ => rfl
  have R_NoNumber : XMk P w K mg base "NoNumber" ["self", "name"] ["name"] := ⟨C_NoNumber, fi_NoNumber, _, T_NoNumber, in_NoNumber, ti_NoNumber, okI_NoNumber T_NoNumber (by simp only [List.forall_mem_cons, List.forall_mem_nil, List.not_mem_nil, false_implies, implies_true]; exact ⟨no_NoNumber_name, trivial⟩) QI_NoNumber, bI_NoNumber, g_NoNumber⟩
  have xc_NoNumber : XfC K C_NoNumber := ⟨ga_NoNumber, gg_NoNumber, ex_NoNumber, hd_NoNumber⟩
  have xk_NoNumber : ExcK K C_NoNumber := ⟨ic_NoNumber, ga_NoNumber, gg_NoNumber, ex_NoNumber, cl_NoNumber, spc, tkc, mr_NoNumber⟩
  have T_NoPart : OexC K C_NoPart := ⟨⟨_, _, _, _, _, _, _, _, _, _, _, _, _, _, _, xL_NoPart, rv_NoPart⟩, sa_NoPart, ex_NoPart, ty_NoPart, kp_NoPart⟩
  have QI_NoPart := fun_mk (st := st_NoPart) li_NoPart ci_NoPart ki_NoPart
  have bI_NoPart := QI_NoPart.binds (ps := ["self", "name"]) fun _ _ _ _ _ _ us hl => match us, hl with | [_, _], _ => rfl
  have R_NoPart : XMk P w K mg base "NoPart" ["self", "name"] ["name"] := ⟨C_NoPart, fi_NoPart, _, T_NoPart, in_NoPart, ti_NoPart, okI_NoPart T_NoPart (by simp only [List.forall_mem_cons, List.forall_mem_nil, List.not_mem_nil, false_implies, implies_true]; exact ⟨no_NoPart_name, trivial⟩) QI_NoPart, bI_NoPart, g_NoPart⟩
  have xc_NoPart : XfC K C_NoPart := ⟨ga_NoPart, gg_NoPart, ex_NoPart, hd_NoPart⟩
  have xk_NoPart : ExcK K C_NoPart := ⟨ic_NoPart, ga_NoPart, gg_NoPart, ex_NoPart, cl_NoPart, spc, tkc, mr_NoPart⟩
  have y_LineError : XIs K mg "LineError" [("BadCount", true), ("NoName", true), ("Twice", true), ("NoNumber", true), ("NoPart", true)] := ⟨_, g_LineError, (XisT.cons g_BadCount xk_BadCount kt_BadCount_LineError (XisT.cons g_NoName xk_NoName kt_NoName_LineError (XisT.cons g_Twice xk_Twice kt_Twice_LineError (XisT.cons g_NoNumber xk_NoNumber kt_NoNumber_LineError (XisT.cons g_NoPart xk_NoPart kt_NoPart_LineError XisT.nil)))))⟩
  have Y_BadCount : XTry K mg "BadCount" [("BadCount", true), ("NoName", false), ("Twice", false), ("NoNumber", false), ("NoPart", false)] := ⟨_, g_BadCount, (ExmT.cons g_BadCount (exm_of ex_BadCount ic_BadCount ty_BadCount sb_BadCount_BadCount) (ExmT.cons g_NoName (exm_of ex_BadCount ic_BadCount ty_BadCount sb_NoName_BadCount) (ExmT.cons g_Twice (exm_of ex_BadCount ic_BadCount ty_BadCount sb_Twice_BadCount) (ExmT.cons g_NoNumber (exm_of ex_BadCount ic_BadCount ty_BadCount sb_NoNumber_BadCount) (ExmT.cons g_NoPart (exm_of ex_BadCount ic_BadCount ty_BadCount sb_NoPart_BadCount) ExmT.nil)))))⟩
  have y_NoName : XIs K mg "NoName" [("BadCount", false), ("NoName", true), ("Twice", false), ("NoNumber", false), ("NoPart", false)] := ⟨_, g_NoName, (XisT.cons g_BadCount xk_BadCount kt_BadCount_NoName (XisT.cons g_NoName xk_NoName kt_NoName_NoName (XisT.cons g_Twice xk_Twice kt_Twice_NoName (XisT.cons g_NoNumber xk_NoNumber kt_NoNumber_NoName (XisT.cons g_NoPart xk_NoPart kt_NoPart_NoName XisT.nil)))))⟩
  have Y_NoNumber : XTry K mg "NoNumber" [("BadCount", false), ("NoName", false), ("Twice", false), ("NoNumber", true), ("NoPart", false)] := ⟨_, g_NoNumber, (ExmT.cons g_BadCount (exm_of ex_NoNumber ic_NoNumber ty_NoNumber sb_BadCount_NoNumber) (ExmT.cons g_NoName (exm_of ex_NoNumber ic_NoNumber ty_NoNumber sb_NoName_NoNumber) (ExmT.cons g_Twice (exm_of ex_NoNumber ic_NoNumber ty_NoNumber sb_Twice_NoNumber) (ExmT.cons g_NoNumber (exm_of ex_NoNumber ic_NoNumber ty_NoNumber sb_NoNumber_NoNumber) (ExmT.cons g_NoPart (exm_of ex_NoNumber ic_NoNumber ty_NoNumber sb_NoPart_NoNumber) ExmT.nil)))))⟩
  have y_ValueError : XIsB K mg "ValueError" "ValueError" [("BadCount", true), ("NoName", true), ("Twice", true), ("NoNumber", true), ("NoPart", true)] := ⟨m_ValueError, by decide +kernel, (XisT.cons g_BadCount xk_BadCount kt_BadCount_ValueError (XisT.cons g_NoName xk_NoName kt_NoName_ValueError (XisT.cons g_Twice xk_Twice kt_Twice_ValueError (XisT.cons g_NoNumber xk_NoNumber kt_NoNumber_ValueError (XisT.cons g_NoPart xk_NoPart kt_NoPart_ValueError XisT.nil)))))⟩
  have x_what : XfT K mg "what" ["BadCount"] := (XfT.cons g_BadCount xc_BadCount no_BadCount_what XfT.nil)
  have x_count : XfT K mg "count" ["BadCount"] := (XfT.cons g_BadCount xc_BadCount no_BadCount_count XfT.nil)
  have x_name : XfT K mg "name" ["NoName", "Twice", "NoNumber", "NoPart"] := (XfT.cons g_NoName xc_NoName no_NoName_name (XfT.cons g_Twice xc_Twice no_Twice_name (XfT.cons g_NoNumber xc_NoNumber no_NoNumber_name (XfT.cons g_NoPart xc_NoPart no_NoPart_name XfT.nil))))
  have F_law_state := ok_law_state (P := P) (w := w) (mg := mg) (base := base) Q_law_state m_abs m_int
  have B_law_state : FnB P w K mg base "_law_state" 1 ["_law_cell"] m_law_state := ⟨_, _, F_law_state, PySem.W.mg_of X G a_law_state, k_law_state, b_law_state⟩
  have F_law_digit := ok_law_digit (P := P) (w := w) (mg := mg) (base := base) Q_law_digit m_int
  have B_law_digit : FnB P w K mg base "_law_digit" 1 ["_law_state_here", "_law_base"] m_law_digit := ⟨_, _, F_law_digit, PySem.W.mg_of X G a_law_digit, k_law_digit, b_law_digit⟩
  have F_law_name := ok_law_name (P := P) (w := w) (mg := mg) (base := base) Q_law_name B_law_digit m_range m_str
  have B_law_name : FnB P w K mg base "_law_name" 2 ["_law_s", "_law_taken"] m_law_name := ⟨_, _, F_law_name, PySem.W.mg_of X G a_law_name, k_law_name, b_law_name⟩
  have F_law_names := ok_law_names (P := P) (w := w) (mg := mg) (base := base) Q_law_names B_law_name m_range
  have B_law_names : FnB P w K mg base "_law_names" 3 ["_law_s", "_law_many"] m_law_names := ⟨_, _, F_law_names, PySem.W.mg_of X G a_law_names, k_law_names, b_law_names⟩
  have F_law_terms := ok_law_terms (P := P) (w := w) (mg := mg) (base := base) Q_law_terms B_law_digit m_range m_len
  have B_law_terms : FnB P w K mg base "_law_terms" 2 ["_law_s", "_law_names_here"] m_law_terms := ⟨_, _, F_law_terms, PySem.W.mg_of X G a_law_terms, k_law_terms, b_law_terms⟩
  have F_law_sorted := ok_law_sorted (P := P) (w := w) (mg := mg) (base := base) Q_law_sorted m_sorted m_set m_tuple m_len m_list
  have B_law_sorted : FnB P w K mg base "_law_sorted" 1 ["_law_terms_here"] m_law_sorted := ⟨_, _, F_law_sorted, PySem.W.mg_of X G a_law_sorted, k_law_sorted, b_law_sorted⟩
  have F_law_due := ok_law_due (P := P) (w := w) (mg := mg) (base := base) Q_law_due B_law_sorted m_max m_len
  have B_law_due : FnB P w K mg base "_law_due" 2 ["_law_names_here", "_law_terms_here", "_law_degree"] m_law_due := ⟨_, _, F_law_due, PySem.W.mg_of X G a_law_due, k_law_due, b_law_due⟩
  have F_asked_degree := ok_asked_degree (P := P) (w := w) (mg := mg) (base := base) Q_asked_degree R_BadCount m_len
  have B_asked_degree : FnB P w K mg base "asked_degree" 3 ["names", "degree"] m_asked_degree := ⟨_, _, F_asked_degree, PySem.W.mg_of X G a_asked_degree, k_asked_degree, b_asked_degree⟩
  have F_Program_names := ok_Program_names (P := P) (w := w) (mg := mg) (base := base) Q_Program_names A_number_names m_list
  have M_names : MTab P w K mg base 1 0 "names" [("Program", m_Program_names)] := (MTab.cons g_Program C1_Program ⟨fm_Program_names, n_Program_names, k_Program_names⟩ F_Program_names b_Program_names (by first | decide | omega) MTab.nil)
  have F_asked_names_of := ok_asked_names_of (P := P) (w := w) (mg := mg) (base := base) Q_asked_names_of M_names A_terms R_NoNumber
  have B_asked_names_of : FnB P w K mg base "asked_names_of" 3 ["program", "form"] m_asked_names_of := ⟨_, _, F_asked_names_of, PySem.W.mg_of X G a_asked_names_of, k_asked_names_of, b_asked_names_of⟩
  have F_products := ok_products (P := P) (w := w) (mg := mg) (base := base) Q_products m_enumerate
  have B_products : FnB P w K mg base "products" 1 ["names"] m_products := ⟨_, _, F_products, PySem.W.mg_of X G a_products, k_products, b_products⟩
  have F_columns := ok_columns (P := P) (w := w) (mg := mg) (base := base) Q_columns B_products
  have B_columns : FnB P w K mg base "columns" 2 ["names", "degree"] m_columns := ⟨_, _, F_columns, PySem.W.mg_of X G a_columns, k_columns, b_columns⟩
  have F_Form_degree := ok_Form_degree (P := P) (w := w) (mg := mg) (base := base) Q_Form_degree A_terms m_len
  have M_degree : MTab P w K mg base 1 0 "degree" [("Form", m_Form_degree)] := (MTab.cons g_Form C1_Form ⟨fm_Form_degree, n_Form_degree, k_Form_degree⟩ F_Form_degree b_Form_degree (by first | decide | omega) MTab.nil)
  have F_row_of := ok_row_of (P := P) (w := w) (mg := mg) (base := base) Q_row_of B_asked_degree B_asked_names_of B_columns M_names M_degree A_terms R_BadCount m_tuple m_sorted
  have B_row_of : FnB P w K mg base "row_of" 4 ["program", "form", "degree"] m_row_of := ⟨_, _, F_row_of, PySem.W.mg_of X G a_row_of, k_row_of, b_row_of⟩
  have F_law_found := ok_law_found (P := P) (w := w) (mg := mg) (base := base) Q_law_found B_row_of Y_BadCount Y_NoNumber x_what x_count x_name y_NoName y_LineError y_ValueError m_isinstance m_tuple
  have B_law_found : FnB P w K mg base "_law_found" 5 ["_law_program", "_law_form", "_law_degree"] m_law_found := ⟨_, _, F_law_found, PySem.W.mg_of X G a_law_found, k_law_found, b_law_found⟩
  have F_is_name := ok_is_name (P := P) (w := w) (mg := mg) (base := base) Q_is_name g_LETTERS r_LETTERS g_LONGEST r_LONGEST g_FIGURES r_FIGURES m_all m_len
  have B_is_name : FnB P w K mg base "is_name" 1 ["text"] m_is_name := ⟨_, _, F_is_name, PySem.W.mg_of X G a_is_name, k_is_name, b_is_name⟩
  have F_asked_names := ok_asked_names (P := P) (w := w) (mg := mg) (base := base) Q_asked_names B_is_name R_NoName
  have B_asked_names : FnB P w K mg base "asked_names" 3 ["texts"] m_asked_names := ⟨_, _, F_asked_names, PySem.W.mg_of X G a_asked_names, k_asked_names, b_asked_names⟩
  have F_asked_once := ok_asked_once (P := P) (w := w) (mg := mg) (base := base) Q_asked_once R_Twice
  have B_asked_once : FnB P w K mg base "asked_once" 3 ["names"] m_asked_once := ⟨_, _, F_asked_once, PySem.W.mg_of X G a_asked_once, k_asked_once, b_asked_once⟩
  have F_asked_some := ok_asked_some (P := P) (w := w) (mg := mg) (base := base) Q_asked_some B_asked_names B_asked_once R_BadCount m_len
  have B_asked_some : FnB P w K mg base "asked_some" 4 ["what", "names", "most"] m_asked_some := ⟨_, _, F_asked_some, PySem.W.mg_of X G a_asked_some, k_asked_some, b_asked_some⟩
  have M_inner : MTab P w K mg base 0 0 "inner" [] := MTab.nil
  have F_measured := ok_measured (P := P) (w := w) (mg := mg) (base := base) Q_measured M_inner A_row m_max m_len
  have B_measured : FnB P w K mg base "measured" 1 ["body"] m_measured := ⟨_, _, F_measured, PySem.W.mg_of X G a_measured, k_measured, b_measured⟩
  have F_asked_sizes := ok_asked_sizes (P := P) (w := w) (mg := mg) (base := base) Q_asked_sizes B_measured g_MOST_STATEMENTS r_MOST_STATEMENTS g_MOST_DEEP r_MOST_DEEP R_BadCount m_sum
  have B_asked_sizes : FnB P w K mg base "asked_sizes" 3 ["bodies"] m_asked_sizes := ⟨_, _, F_asked_sizes, PySem.W.mg_of X G a_asked_sizes, k_asked_sizes, b_asked_sizes⟩
  have F_names_in := ok_names_in (P := P) (w := w) (mg := mg) (base := base) Q_names_in A_terms A_name A_form I_Any I_Put m_isinstance
  have B_names_in : FnB P w K mg base "names_in" 1 ["statement"] m_names_in := ⟨_, _, F_names_in, PySem.W.mg_of X G a_names_in, k_names_in, b_names_in⟩
  have FR_22 : ∀ n : Nat, FnOk P w K mg base (L2.CX P w) (0 + n) f_all_within (PySem.W.fnOf "all_within" "all_within" (defArgs st_all_within) (defBody st_all_within) (defScope st_all_within) .none kV_all_within dc_all_within pm_all_within an_all_within cd_all_within ct_all_within) ["body"] (spOf K mg 1 (m_all_within n)) := by
    intro n
    induction n with
    | zero => exact fn_bad
    | succ n ih =>
      have F_all_within := ih
      have B_all_within : FnB P w K mg base "all_within" (0 + n) ["body"] (m_all_within n) := ⟨_, _, F_all_within, PySem.W.mg_of X G a_all_within, k_all_within, b_all_within⟩
      exact ok_all_within (P := P) (w := w) (mg := mg) (base := base) (k := (0 + n)) Q_all_within (by omega) B_all_within M_inner A_row
  have F_all_within := FR_22 12
  have B_all_within : FnB P w K mg base "all_within" 12 ["body"] (m_all_within 12) := ⟨_, _, F_all_within, PySem.W.mg_of X G a_all_within, k_all_within, b_all_within⟩
  have F_Program_statements := ok_Program_statements (P := P) (w := w) (mg := mg) (base := base) Q_Program_statements B_all_within A_bodies
  have M_statements : MTab P w K mg base 13 0 "statements" [("Program", m_Program_statements)] := (MTab.cons g_Program C1_Program ⟨fm_Program_statements, n_Program_statements, k_Program_statements⟩ F_Program_statements b_Program_statements (by first | decide | omega) MTab.nil)
  have F_Program___init__ := ok_Program___init__ (P := P) (w := w) (mg := mg) (base := base) Q_Program___init__ B_asked_some B_asked_sizes B_names_in M_statements A_number_names A_bodies A_part I_Call g_MOST_NUMBERS r_MOST_NUMBERS g_MOST_PARTS r_MOST_PARTS R_NoPart R_NoNumber m_tuple m_list m_isinstance
  have K_Program : MkB P w K mg base 14 2 "Program" m_Program___init__ := ⟨_, _, _, _, g_Program, ⟨mk_Program, fm_Program_init, n_Program___init__, kp_Program⟩, F_Program___init__, b_Program___init__⟩
  have F_in_order := ok_in_order (P := P) (w := w) (mg := mg) (base := base) Q_in_order m_len
  have B_in_order : FnB P w K mg base "in_order" 1 ["names"] m_in_order := ⟨_, _, F_in_order, PySem.W.mg_of X G a_in_order, k_in_order, b_in_order⟩
  have F_Form___init__ := ok_Form___init__ (P := P) (w := w) (mg := mg) (base := base) Q_Form___init__ B_asked_names B_in_order A_terms g_MOST_NAMES r_MOST_NAMES R_BadCount m_tuple m_len m_sorted m_list
  have K_Form : MkB P w K mg base 4 1 "Form" m_Form___init__ := ⟨_, _, _, _, g_Form, ⟨mk_Form, fm_Form_init, n_Form___init__, kp_Form⟩, F_Form___init__, b_Form___init__⟩
  have F_Body___init__ := ok_Body___init__ (P := P) (w := w) (mg := mg) (base := base) Q_Body___init__ A_row m_tuple
  have K_Body : MkB P w K mg base 1 1 "Body" m_Body___init__ := ⟨_, _, _, _, g_Body, ⟨mk_Body, fm_Body_init, n_Body___init__, kp_Body⟩, F_Body___init__, b_Body___init__⟩
  have F_law := ok_law (P := P) (w := w) (mg := mg) (base := base) Q_law B_law_state B_law_names B_law_terms B_law_due B_law_digit B_law_found K_Program K_Form K_Body
  refine F_law.imp fun vs H Q E q => ?_
  obtain ⟨a, ns, rfl, hT, hS, hl, hbits, hq⟩ := q
  obtain ⟨cs, e⟩ := lawT ns hl hbits
  refine ⟨rfl, [.lst (ns.map Pv.int)], [], [], unT H, Rel0.own hT, .cons (.lst (sql_unT hS) (RepVs.of_ints ns)) .nil, ?_⟩
  unfold m_law at e
  rw [e]
  intro w U' H' μ' g r rp
  cases rp
  exact hq H'
end Lw
set_option Elab.async false
set_option linter.all false
set_option autoImplicit false
set_option maxRecDepth 100000
set_option maxHeartbeats 4000000
namespace Lw
open PySem AL
theorem log2_lt {n a : Nat} (h : n < 2 ^ a) (h0 : 0 < a) : n.log2 < a := by
  by_cases hn : n = 0
  · subst hn; simpa using h0
  · exact (Nat.log2_lt hn).mpr h
theorem mul_ok {i j : Int} {a b : Nat} (hi : i.natAbs < 2 ^ a) (hj : j.natAbs < 2 ^ b) (h0 : 0 < a) (h1 : 0 < b) (h : a + b < 1000000) : mulOk i j = true := by
  have := log2_lt hi h0
  have := log2_lt hj h1
  exact decide_eq_true (by omega)
theorem fdiv_ok {j : Int} {b : Nat} (h : j ≠ 0) (hj : j.natAbs < 2 ^ b) (h1 : 0 < b) (h2 : b < 9000) : fdivOk j = true := by
  have := log2_lt hj h1
  unfold fdivOk
  rw [decide_eq_true h, decide_eq_true (show j.natAbs.log2 < 9000 by omega)]
  rfl
theorem fits_ok {n : Nat} (h : n ≤ 16777216) : fits n = true := decide_eq_true h
def stC (s : Int × Int × Int) : Co := .lst [.int s.1, .int s.2.1, .int s.2.2]
def StOk (s : Int × Int × Int) : Prop := 0 ≤ s.1 ∧ 7 ≤ s.2.1 ∧ s.2.1 < 2147483640 ∧ 0 ≤ s.2.2 ∧ s.2.2 < 2147483640
/-- the k-th cell holds a state of the draws -/
def GS (cs : Cells) (k : Nat) : Prop := ∃ s, cs[k]? = some (stC s) ∧ StOk s
/-- some draws later -/
def Dr (k : Nat) (cs cs' : Cells) : Prop := ∃ s, StOk s ∧ cs' = cs.set k (stC s)
theorem GS.lt {cs : Cells} {k : Nat} (h : GS cs k) : k < cs.length := by
  obtain ⟨s, h, _⟩ := h
  exact (List.getElem?_eq_some_iff.mp h).1
theorem GS.refl {cs : Cells} {k : Nat} (h : GS cs k) : Dr k cs cs := by
  obtain ⟨s, h, hs⟩ := h
  refine ⟨s, hs, ?_⟩
  apply List.ext_getElem?
  intro j
  by_cases q : k = j
  · subst q
    rw [List.getElem?_set_self (List.getElem?_eq_some_iff.mp h).1, h]
  · rw [List.getElem?_set_ne q]
theorem GS.dr {cs cs' : Cells} {k : Nat} (h : GS cs k) (d : Dr k cs cs') : GS cs' k := by
  obtain ⟨s, hs, rfl⟩ := d
  exact ⟨s, List.getElem?_set_self h.lt, hs⟩
theorem Dr.trans {k : Nat} {a b c : Cells} (h : Dr k a b) (g : Dr k b c) : Dr k a c := by
  obtain ⟨s, hs, rfl⟩ := h
  obtain ⟨t, ht, rfl⟩ := g
  exact ⟨t, ht, by rw [List.set_set]⟩
theorem Dr.len {k : Nat} {a b : Cells} (h : Dr k a b) : b.length = a.length := by
  obtain ⟨s, hs, rfl⟩ := h
  rw [List.length_set]
theorem Dr.get {k j : Nat} {a b : Cells} (h : Dr k a b) (hj : k ≠ j) : b[j]? = a[j]? := by
  obtain ⟨s, hs, rfl⟩ := h
  rw [List.getElem?_set_ne hj]
theorem Dr.app {k : Nat} {a b : Cells} (h : Dr k a b) (hk : k < a.length) (e : Cells) : Dr k (a ++ e) (b ++ e) := by
  obtain ⟨s, hs, rfl⟩ := h
  exact ⟨s, hs, by rw [List.set_append_left _ _ hk]⟩
/-- behind cells of one's own -/
theorem Dr.split {k : Nat} {a e c : Cells} (h : Dr k (a ++ e) c) (hk : k < a.length) : ∃ b, c = b ++ e ∧ Dr k a b := by
  obtain ⟨s, hs, rfl⟩ := h
  exact ⟨a.set k (stC s), by rw [List.set_append_left _ _ hk], s, hs, rfl⟩
theorem GS.app {cs : Cells} {k : Nat} (h : GS cs k) (e : Cells) : GS (cs ++ e) k := by
  obtain ⟨s, h1, hs⟩ := h
  exact ⟨s, by rw [List.getElem?_append_left (List.getElem?_eq_some_iff.mp h1).1]; exact h1, hs⟩
theorem digit_ok {cs : Cells} {k : Nat} (h : GS cs k) {n : Int} (h0 : 0 < n) (h1 : n.natAbs < 2 ^ 200) : ∃ d cs', m_law_digit [.ref k, .int n] cs = .ok (.int d) cs' ∧ 0 ≤ d ∧ d < n ∧ Dr k cs cs' := by
  obtain ⟨⟨a, b, c⟩, hk, ha, hb, hb2, hc, hc2⟩ := h
  simp only at ha hb hb2 hc hc2
  have hk : cs[k]? = some (.lst [.int a, .int b, .int c]) := hk
  have kl : k < cs.length := (List.getElem?_eq_some_iff.mp hk).1
  have hn : n ≠ 0 := by omega
  have hf : fdivOk n = true := fdiv_ok hn h1 (by omega) (by omega)
  by_cases hp : 0 < a
  · refine ⟨a.fmod n, cs.set k (stC (a.fdiv n, b, c)), ?_, ?_, ?_, ⟨_, ⟨?_, hb, hb2, hc, hc2⟩, rfl⟩⟩
    · simp [m_law_digit, body_law_digit, v_ixC hk, hk, L2.atI, L2.ixN, hp, hn, hf, putIx, stC]
    · rw [Int.fmod_eq_emod_of_nonneg _ (by omega)]; exact Int.emod_nonneg _ hn
    · rw [Int.fmod_eq_emod_of_nonneg _ (by omega)]; exact Int.emod_lt_of_pos _ h0
    · show 0 ≤ a.fdiv n
      rw [Int.fdiv_eq_ediv_of_nonneg _ (by omega)]; exact Int.ediv_nonneg ha (by omega)
  · have hq : 0 ≤ b.fdiv 1009 ∧ b.fdiv 1009 < 2147483640 := by
      rw [Int.fdiv_eq_ediv_of_nonneg _ (by decide)]; omega
    have hm : mulOk b (b.fdiv 1009 + 69621) = true := mul_ok (a := 40) (b := 40) (by omega) (by omega) (by decide) (by decide) (by decide)
    have hs : ∀ v, (cs.set k v)[k]? = some v := fun v => List.getElem?_set_self kl
    have f9 : fdivOk 1009 = true := by decide +kernel
    have f7 : fdivOk 97 = true := by decide +kernel
    refine ⟨(((b * (b.fdiv 1009 + 69621) + c).fmod 2147483629 + 7).fdiv 97).fmod n, cs.set k (stC (a, (b * (b.fdiv 1009 + 69621) + c).fmod 2147483629 + 7, c)), ?_, ?_, ?_, ⟨_, ⟨ha, ?_, ?_, hc, hc2⟩, rfl⟩⟩
    · simp [m_law_digit, body_law_digit, v_ixC hk, v_ixC (hs _), hk, L2.atI, L2.ixN, hp, hn, f9, f7, hm, putIx, stC]
    · rw [Int.fmod_eq_emod_of_nonneg _ (by omega)]; exact Int.emod_nonneg _ hn
    · rw [Int.fmod_eq_emod_of_nonneg _ (by omega)]; exact Int.emod_lt_of_pos _ h0
    · show 7 ≤ (b * (b.fdiv 1009 + 69621) + c).fmod 2147483629 + 7
      rw [Int.fmod_eq_emod_of_nonneg _ (by decide)]; omega
    · show (b * (b.fdiv 1009 + 69621) + c).fmod 2147483629 + 7 < 2147483640
      rw [Int.fmod_eq_emod_of_nonneg _ (by decide)]; omega
theorem state_ok (cs : Cells) (z : Int) (hz : Builtin.Int.intBits z ≤ 2000000) : ∃ s, m_law_state [.int z] cs = .ok (.ref cs.length) (cs ++ [stC s]) ∧ StOk s := by
  have hb : z.natAbs.log2 ≤ 2000000 := by
    unfold Builtin.Int.intBits at hz
    split at hz
    · rename_i h0
      have : z = 0 := by simpa using h0
      subst this; decide
    · omega
  obtain ⟨w, hw, hw0, hwl⟩ : ∃ w : Int, (if z < 0 then -z else z) = w ∧ 0 ≤ w ∧ w.natAbs.log2 ≤ 2000000 := by
    refine ⟨_, rfl, by split <;> omega, ?_⟩
    have : (if z < 0 then -z else z).natAbs = z.natAbs := by split <;> omega
    rw [this]; exact hb
  have l1 : (1 : Int).natAbs.log2 = 0 := by decide
  have l0 : (0 : Int).natAbs.log2 = 0 := by decide
  have m1 : mulOk w 1 = true := decide_eq_true (by rw [l1]; omega)
  have m0 : mulOk w 0 = true := decide_eq_true (by rw [l0]; omega)
  have p18 : powOk 10 18 = true := by decide +kernel
  have r1 : 0 ≤ w.fmod 2147483629 ∧ w.fmod 2147483629 < 2147483629 := by rw [Int.fmod_eq_emod_of_nonneg _ (by decide)]; omega
  have r2 : 0 ≤ w.fmod 2147483587 ∧ w.fmod 2147483587 < 2147483587 := by rw [Int.fmod_eq_emod_of_nonneg _ (by decide)]; omega
  have key : ∀ s, fnSem 1 1 body_law_state [.int z] cs = .ok (.ref cs.length) (cs ++ [stC s]) → m_law_state [.int z] cs = .ok (.ref cs.length) (cs ++ [stC s]) := fun s h =>
    shut_keep (ex := [stC s]) h (Nat.le_refl _) (by simp) (.lst (nrs_fz (by simp)))
  by_cases hg : (1000000000000000000 : Int) ≤ w
  · refine ⟨(w * 1, w.fmod 2147483629 + 7, w.fmod 2147483587), key _ ?_, by simp only; omega, by simp only; omega, by simp only; omega, by simp only; omega, by simp only; omega⟩
    simp [body_law_state, hw, p18, hg, m1, fits, stC]
  · refine ⟨(w * 0, w.fmod 2147483629 + 7, w.fmod 2147483587), key _ ?_, by simp only; omega, by simp only; omega, by simp only; omega, by simp only; omega, by simp only; omega⟩
    simp [body_law_state, hw, p18, hg, m0, fits, stC]
theorem state_gs2 (cs : Cells) (z : Int) (hz : Builtin.Int.intBits z ≤ 2000000) : ∃ cs', m_law_state [.int z] cs = .ok (.ref cs.length) cs' ∧ GS cs' cs.length ∧ cs'.length = cs.length + 1 ∧ ∀ (j : Nat) (c : Co), cs[j]? = some c → cs'[j]? = some c := by
  obtain ⟨s, h, hs⟩ := state_ok cs z hz
  exact ⟨_, h, ⟨s, by simp, hs⟩, by simp, fun j c hj => by rw [List.getElem?_append_left (List.getElem?_eq_some_iff.mp hj).1]; exact hj⟩
theorem state_gs (cs : Cells) (z : Int) (hz : Builtin.Int.intBits z ≤ 1048576) : ∃ cs', m_law_state [.int z] cs = .ok (.ref cs.length) cs' ∧ GS cs' cs.length ∧ cs'.length = cs.length + 1 ∧ ∀ (j : Nat) (c : Co), cs[j]? = some c → cs'[j]? = some c := state_gs2 cs z (Nat.le_trans hz (by decide))
end Lw
set_option Elab.async false
set_option linter.all false
set_option autoImplicit false
set_option maxRecDepth 100000
set_option maxHeartbeats 4000000
namespace Lw
open PySem AL
def letL : List Nat := [97, 98, 99, 100, 101, 102, 103, 104, 105, 106, 107, 108, 109, 110, 111, 112, 113, 114, 115, 116, 117, 118, 119, 120, 121, 122]
def figL : List Nat := [48, 49, 50, 51, 52, 53, 54, 55, 56, 57]
def nameCh (c : Nat) : Bool := decide (c ∈ letL) || decide (c ∈ figL)
def isName : List Nat → Bool
  | [] => false
  | c :: r => decide (r.length ≤ 7) && decide (c ∈ letL) && (c :: r).all nameCh
abbrev strL (ps : List (List Nat)) : List Pv := ps.map fun l => .str (S l)
theorem name_ok {l : List Nat} (h : l.length ≤ 1000000) (cs : Cells) : m_is_name [.str (S l)] cs = .ok (.bl (isName l)) cs := by
  have hf : fits l.length = true := fits_ok (by omega)
  cases l with
  | nil =>
    have f0 : fits 0 = true := rfl
    simp [m_is_name, body_is_name, isName, f0]
  | cons c r =>
    simp only [List.length_cons] at h hf
    have h1 : (1 : Int) ≤ (r.length : Int) + 1 := by omega
    have ha : L2.atI (c :: r) 0 = some c := by simp [L2.atI, L2.ixN]
    have hix := v_ixS (cs := cs) ha (by rw [List.length_cons]; exact hf)
    by_cases h2 : (r.length : Int) + 1 ≤ 8
    · have h2' : r.length ≤ 7 := by omega
      by_cases h3 : c ∈ letL
      · obtain ⟨bs, comp, hbs⟩ : ∃ bs : List Bool, fLc (iAny (fVar 0)) (gN 1) fYes (fOrV (f2 oIn (fVar 1) (fCon (.str (S [97, 98, 99, 100, 101, 102, 103, 104, 105, 106, 107, 108, 109, 110, 111, 112, 113, 114, 115, 116, 117, 118, 119, 120, 121, 122])))) (f2 oIn (fVar 1) (fCon (.str (S [48, 49, 50, 51, 52, 53, 54, 55, 56, 57]))))) [1] [some (.str (S (c :: r))), none] cs = .ok (.lst (bs.map Pv.bl)) cs ∧ bs.all id = (c :: r).all nameCh := by
          refine ⟨(c :: r).map nameCh, ?_, by rw [List.all_map]; rfl⟩
          rw [List.map_map]
          refine fLc_map (L := c :: r) (f := fun c => .str (S [c])) (h := fun c => .bl (nameCh c)) (by simp) (by simp only [List.length_cons]; omega) fun d _ => ?_
          have e1 : d ∈ [97, 98, 99, 100, 101, 102, 103, 104, 105, 106, 107, 108, 109, 110, 111, 112, 113, 114, 115, 116, 117, 118, 119, 120, 121, 122] ↔ d ∈ letL := Iff.rfl
          have e2 : d ∈ [48, 49, 50, 51, 52, 53, 54, 55, 56, 57] ↔ d ∈ figL := Iff.rfl
          simp only [ap_lcTurn, ap_gN, ap_wipe1, ap_wipe0, List.set_cons_succ, List.set_cons_zero, ap_yes, noX_ok, Res.bind_ok, if_true, ap_orV, ap_f2, ap_var0, ap_varS, ap_con, v_inS, e1, e2]
          by_cases q : d ∈ letL
          · simp [q, nameCh]
          · simp [q, nameCh]
        have h3' : decide (c ∈ letL) = true := decide_eq_true h3
        have e0 : c ∈ [97, 98, 99, 100, 101, 102, 103, 104, 105, 106, 107, 108, 109, 110, 111, 112, 113, 114, 115, 116, 117, 118, 119, 120, 121, 122] := h3
        have hin : oNotIn (.str (S [c])) (.str (S [97, 98, 99, 100, 101, 102, 103, 104, 105, 106, 107, 108, 109, 110, 111, 112, 113, 114, 115, 116, 117, 118, 119, 120, 121, 122])) cs = .ok (.bl false) cs := (v_inS true c _).trans (by rw [decide_eq_true e0]; rfl)
        generalize hL : S [97, 98, 99, 100, 101, 102, 103, 104, 105, 106, 107, 108, 109, 110, 111, 112, 113, 114, 115, 116, 117, 118, 119, 120, 121, 122] = Lt at *
        unfold m_is_name body_is_name
        rw [hL]
        simp only [isName, h3', decide_eq_true h2', Bool.true_and]
        simp [hf, h1, h2, hix, hin, comp, hbs]
      · have h3' : decide (c ∈ letL) = false := decide_eq_false h3
        have e0 : ¬ c ∈ [97, 98, 99, 100, 101, 102, 103, 104, 105, 106, 107, 108, 109, 110, 111, 112, 113, 114, 115, 116, 117, 118, 119, 120, 121, 122] := h3
        have hin : oNotIn (.str (S [c])) (.str (S [97, 98, 99, 100, 101, 102, 103, 104, 105, 106, 107, 108, 109, 110, 111, 112, 113, 114, 115, 116, 117, 118, 119, 120, 121, 122])) cs = .ok (.bl true) cs := (v_inS true c _).trans (by rw [decide_eq_false e0]; rfl)
        generalize hL : S [97, 98, 99, 100, 101, 102, 103, 104, 105, 106, 107, 108, 109, 110, 111, 112, 113, 114, 115, 116, 117, 118, 119, 120, 121, 122] = Lt at *
        unfold m_is_name body_is_name
        rw [hL]
        simp only [isName, h3', Bool.and_false, Bool.false_and]
        simp [hf, h1, h2, hix, hin]
    · have h2' : ¬ r.length ≤ 7 := by omega
      simp [m_is_name, body_is_name, hf, h1, h2, h2', isName]
/-- the first that is no name -/
theorem asked_ok {ns : List (List Nat)} (h : ∀ l ∈ ns, l.length ≤ 1000000) (cs : Cells) : m_asked_names [.lst (strL ns)] cs = match ns.find? (fun l => !isName l) with
    | some l => .exn "NoName" [("name", .str (S l))] cs
    | none => .ok .non cs := by
  have key : ∀ (ns : List (List Nat)) (x1 : Option Pv), (∀ l ∈ ns, l.length ≤ 1000000) → ∀ x0, match ns.find? (fun l => !isName l) with
      | some l => ∃ y, forL (gTurn (gN 1) body_asked_names_1) (strL ns) [x0, x1] cs = .exn "NoName" [("name", .str (S l))] [x0, y] cs
      | none => ∃ y, forL (gTurn (gN 1) body_asked_names_1) (strL ns) [x0, x1] cs = .nx [x0, y] cs := by
    intro ns
    induction ns with
    | nil => intro x1 _ x0; exact ⟨x1, rfl⟩
    | cons l ns ih =>
      intro x1 h x0
      have hl := name_ok (h l List.mem_cons_self) cs
      cases hn : isName l with
      | false =>
        rw [hn] at hl
        simp only [List.find?_cons, hn, Bool.not_false]
        exact ⟨some (.str (S l)), by simp [forL, body_asked_names_1, hl]⟩
      | true =>
        rw [hn] at hl
        simp only [List.find?_cons, hn, Bool.not_true]
        have ih := ih (some (.str (S l))) (fun u hu => h u (List.mem_cons_of_mem _ hu)) x0
        have step : forL (gTurn (gN 1) body_asked_names_1) (strL (l :: ns)) [x0, x1] cs = forL (gTurn (gN 1) body_asked_names_1) (strL ns) [x0, some (.str (S l))] cs := by
          show (gTurn (gN 1) body_asked_names_1 (.str (S l)) [x0, x1] cs).turn _ = _
          have : gTurn (gN 1) body_asked_names_1 (.str (S l)) [x0, x1] cs = .nx [x0, some (.str (S l))] cs := by simp [body_asked_names_1, hl]
          rw [this]; rfl
        rw [step]
        exact ih
  have k := key ns none h (some (.lst (strL ns)))
  have un : m_asked_names [.lst (strL ns)] cs = fnOut (forL (gTurn (gN 1) body_asked_names_1) (strL ns) [some (.lst (strL ns)), none] cs) := rfl
  rw [un]
  split
  · rename_i l hl
    rw [hl] at k
    obtain ⟨y, k⟩ := k
    rw [k]; rfl
  · rename_i hl
    rw [hl] at k
    obtain ⟨y, k⟩ := k
    rw [k]; rfl
end Lw
set_option Elab.async false
set_option linter.all false
set_option autoImplicit false
set_option maxRecDepth 100000
set_option maxHeartbeats 4000000
namespace Lw
open PySem AL PySem.W
abbrev Tm := Int × List (List Nat)
def tmV (t : Tm) : Pv := .tup [.int t.1, .lst (strL t.2)]
def ttV (t : Tm) : Pv := .tup [.int t.1, .tup (strL t.2)]
def tupV (k : List (List Nat)) : Pv := .tup (strL k)
inductive Rf where
  | count (n : Nat) | name (l : List Nat)
def firstRf : List Tm → Option Rf
  | [] => none
  | (_, ns) :: ts => if 2 < ns.length then some (.count ns.length) else match ns.find? (fun l => !isName l) with
    | some l => some (.name l)
    | none => firstRf ts
def strD (l : List Nat) : PyData := .str (S l)
noncomputable def sortN (ns : List (List Nat)) : List (List Nat) := ns.mergeSort (dataLe false strD)
def ordD (k : List (List Nat)) : PyData := .tuple [.int (0 - (k.length : Int)), .tuple (k.map strD)]
noncomputable def sortF (ks : List (List (List Nat))) : List (List (List Nat)) := ks.mergeSort (dataLe false ordD)
theorem sortN_mem {ns : List (List Nat)} {l : List Nat} : l ∈ sortN ns ↔ l ∈ ns := (List.mergeSort_perm ns _).mem_iff
theorem sortN_len (ns : List (List Nat)) : (sortN ns).length = ns.length := List.length_mergeSort ns
theorem sortF_mem {ks : List (List (List Nat))} {k : List (List Nat)} : k ∈ sortF ks ↔ k ∈ ks := (List.mergeSort_perm ks _).mem_iff
theorem strD_map (ns : List (List Nat)) : ns.map strD = (ns.map S).map PyData.str := by rw [List.map_map]; rfl
theorem sorted_names {ns : List (List Nat)} (h : ns.length ≤ 1000000) (cs : Cells) : mSorted [.lst (strL ns)] cs = .ok (.lst (strL (sortN ns))) cs :=
  mSorted_map (f := fun l => .str (S l)) (d := strD) (fun l _ => rfl) (by rw [strD_map]; exact sortOk_str _) (by omega) cs
theorem sortOk_ord (ks : List (List (List Nat))) : SortOk (ks.map ordD) := by
  refine ⟨fun d hd d' hd' => ?_, .inl fun d hd => ?_, fun d hd => ?_⟩
  · obtain ⟨x, _, rfl⟩ := List.mem_map.mp hd
    obtain ⟨y, _, rfl⟩ := List.mem_map.mp hd'
    unfold ordD
    rw [strD_map, strD_map]
    simp [alike, alikeAll, alike_strs, -List.map_map]
  · obtain ⟨x, _, rfl⟩ := List.mem_map.mp hd
    exact ⟨_, _, rfl⟩
  · obtain ⟨x, _, rfl⟩ := List.mem_map.mp hd
    unfold ordD
    rw [strD_map]
    simp [PyData.depth, PyData.depthAll, depth_strs, -List.map_map]
theorem toPy_tupV (k : List (List Nat)) : toPy (tupV k) = some (.tuple (k.map strD)) := toPy_tup (toPys_map fun _ _ => rfl)
theorem in_order_ok (k : List (List Nat)) (cs : Cells) : m_in_order [tupV k] cs = .ok (.tup [.int (0 - (k.length : Int)), tupV k]) cs := by
  have f2 : fits 2 = true := rfl
  have hl : (strL k).length = k.length := List.length_map _
  unfold m_in_order body_in_order tupV
  simp [f2]
theorem sorted_keys {ks : List (List (List Nat))} (h : ks.length ≤ 1000000) (cs : Cells) : mSortK m_in_order [.lst (ks.map tupV)] cs = .ok (.lst ((sortF ks).map tupV)) cs :=
  mSortK_map (f := tupV) (d := ordD) (fun k _ => ⟨_, _, in_order_ok k [], by
    show toPy (.tup [.int (0 - (k.length : Int)), tupV k]) = _
    have h1 : toPys [.int (0 - (k.length : Int)), tupV k] = some [.int (0 - (k.length : Int)), .tuple (k.map strD)] := by
      simp [toPys, toPy, toPy_tupV]
    exact toPy_tup h1⟩) (fun k _ => by
    unfold tupV
    rw [nr_tup]
    exact nrs_map fun _ _ => rfl) (sortOk_ord ks) (by omega) cs
abbrev Dm := List (List (List Nat) × Int)
def keyK (k : List (List Nat)) : List L2.Key := k.map fun l => Sum.inr (S l)
theorem keyK_inj {a b : List (List Nat)} (h : keyK a = keyK b) : a = b := by
  unfold keyK at h
  refine List.map_inj_right (fun x y e => ?_) |>.mp h
  exact S_inj (Sum.inr.inj e)
theorem keysP_strL : ∀ k : List (List Nat), keysP (strL k) = some (keyK k)
  | [] => rfl
  | l :: k => by
    show (match keyP (.str (S l)), keysP (strL k) with | some k, some ks => some (k :: ks) | _, _ => none) = _
    rw [keysP_strL k]
    rfl
def encD (D : Dm) : List (List L2.Key × Pv) := D.map fun e => (keyK e.1, .int e.2)
def look (D : Dm) (k : List (List Nat)) : Option Int := (D.find? fun e => decide (e.1 = k)).map (·.2)
def put (D : Dm) (k : List (List Nat)) (z : Int) : Dm := if (D.any fun e => decide (e.1 = k)) = true then D.map (fun e => if e.1 = k then (e.1, z) else e) else D ++ [(k, z)]
noncomputable def addT (D : Dm) (t : Tm) : Dm := put D (sortN t.2) ((look D (sortN t.2)).getD 0 + t.1)
theorem key_iff {a b : List (List Nat)} : keyK a = keyK b ↔ a = b := ⟨keyK_inj, fun h => by rw [h]⟩
theorem val_enc (k : List (List Nat)) : ∀ D : Dm, valP (encD D) (keyK k) = (look D k).map Pv.int
  | [] => rfl
  | (a, z) :: D => by
    have ih := val_enc k D
    unfold valP look encD at ih ⊢
    rw [List.map_cons, List.find?_cons, List.find?_cons]
    by_cases e : a = k
    · simp [e]
    · have e' : ¬ keyK a = keyK k := fun h => e (keyK_inj h)
      simp only [e, e', decide_false]
      exact ih
theorem put_enc (D : Dm) (k : List (List Nat)) (z : Int) : putD (encD D) (keyK k) (.int z) = encD (put D k z) := by
  have h1 : ((encD D).any fun kv => decide (kv.1 = keyK k)) = (D.any fun e => decide (e.1 = k)) := by
    unfold encD
    rw [List.any_map]
    congr 1
    funext e
    simp [key_iff]
  unfold putD put
  rw [h1]
  split
  · unfold encD
    rw [List.map_map, List.map_map]
    apply List.map_congr_left
    intro e _
    show (if keyK e.1 = keyK k then (keyK e.1, Pv.int z) else (keyK e.1, Pv.int e.2)) = _
    by_cases q : e.1 = k
    · have q' : keyK e.1 = keyK k := by rw [q]
      simp [q]
    · have q' : ¬ keyK e.1 = keyK k := fun h => q (keyK_inj h)
      simp [q, q']
  · unfold encD
    simp
theorem put_len (D : Dm) (k : List (List Nat)) (z : Int) : (put D k z).length ≤ D.length + 1 := by
  unfold put
  split
  · rw [List.length_map]; omega
  · simp
theorem encD_len (D : Dm) : (encD D).length = D.length := by unfold encD; rw [List.length_map]
abbrev gFI : FG := gT 2 (gsCons (gN 3) (gsCons (gN 4) gsNil))
def rfE : Rf → Str × List (Str × Pv)
  | .count n => ("BadCount", [("count", .int (n : Int)), ("what", .str (S [110, 97, 109, 101, 115]))])
  | .name l => ("NoName", [("name", .str (S l))])
def Sane (ts : List Tm) : Prop := ts.length ≤ 100000 ∧ ∀ t ∈ ts, t.2.length ≤ 100000 ∧ ∀ l ∈ t.2, l.length ≤ 1000000
theorem init_loop {x0 x1 : Option Pv} {cs : Cells} {i0 : Co} : ∀ (ts : List Tm) (D : Dm) (x3 x4 x5 : Option Pv), (∀ t ∈ ts, t.2.length ≤ 100000 ∧ ∀ l ∈ t.2, l.length ≤ 1000000) → D.length + ts.length < 1000000 →
    match firstRf ts with
    | none => ∃ y3 y4 y5, forL (gTurn gFI body_Form___init___1) (ts.map tmV) [x0, x1, some (.ref (cs.length + 1)), x3, x4, x5] (cs ++ [i0, .dT (encD D)]) = .nx [x0, x1, some (.ref (cs.length + 1)), y3, y4, y5] (cs ++ [i0, .dT (encD (ts.foldl addT D))])
    | some r => ∃ y3 y4 y5 D', forL (gTurn gFI body_Form___init___1) (ts.map tmV) [x0, x1, some (.ref (cs.length + 1)), x3, x4, x5] (cs ++ [i0, .dT (encD D)]) = .exn (rfE r).1 (rfE r).2 [x0, x1, some (.ref (cs.length + 1)), y3, y4, y5] (cs ++ [i0, .dT (encD D')])
  | [], D, x3, x4, x5, _, _ => ⟨x3, x4, x5, rfl⟩
  | (z, ns) :: ts, D, x3, x4, x5, hs, hl => by
    obtain ⟨hn1, hn2⟩ := hs (z, ns) List.mem_cons_self
    simp only at hn1 hn2
    simp only [List.length_cons] at hl
    have hask := asked_ok hn2 (cs ++ [i0, .dT (encD D)])
    have hlen : (strL ns).length = ns.length := List.length_map _
    unfold firstRf
    by_cases hc : 2 < ns.length
    · have hc' : (2 : Int) < (ns.length : Int) := by omega
      rw [if_pos hc]
      refine ⟨some (.int z), some (.lst (strL ns)), x5, D, ?_⟩
      simp [forL, tmV, body_Form___init___1, hc', rfE, RS.turn]
    · rw [if_neg hc]
      have hc' : ¬ (2 : Int) < (ns.length : Int) := by omega
      cases hf : ns.find? (fun l => !isName l) with
      | some l =>
        rw [hf] at hask
        refine ⟨some (.int z), some (.lst (strL ns)), x5, D, ?_⟩
        simp only at hask
        generalize hN : strL ns = N at *
        simp [forL, tmV, hN, body_Form___init___1, hlen, hc', hask, rfE, RS.turn]
      | none =>
        rw [hf] at hask
        simp only at hask
        have hso := sorted_names (ns := ns) (by omega) (cs ++ [i0, .dT (encD D)])
        have hkp := keysP_strL (sortN ns)
        have hve := val_enc (sortN ns) D
        have hpe := put_enc D (sortN ns) ((look D (sortN ns)).getD 0 + z)
        have hD : (encD D).length < 16777216 := by rw [encD_len]; omega
        have ih := init_loop (x0 := x0) (x1 := x1) (cs := cs) (i0 := i0) ts (addT D (z, ns)) (some (.int z)) (some (.lst (strL ns))) (some (tupV (sortN ns))) (fun t ht => hs t (List.mem_cons_of_mem _ ht)) (by have := put_len D (sortN ns) ((look D (sortN ns)).getD 0 + z); unfold addT; simp only; omega)
        have hty : isD (cs ++ [i0, .dT (encD D)]) (.ref (cs.length + 1)) = true := by simp [isD, dkR, dtR, dkOf, dtOf]
        have hlk : lookD (cs ++ [i0, .dT (encD D)]) (.ref (cs.length + 1)) (tupV (sortN ns)) = some ((look D (sortN ns)).map Pv.int) := by
          unfold lookD tupV
          simp [dkR, dtR, dkOf, dtOf, hkp, hve]
        have hgd : ((look D (sortN ns)).map Pv.int).getD (.int 0) = .int ((look D (sortN ns)).getD 0) := by cases look D (sortN ns) <;> rfl
        have hmt : ∀ c, mTuple [.lst (strL (sortN ns))] c = .ok (tupV (sortN ns)) c := fun c => rfl
        have step : gTurn gFI body_Form___init___1 (tmV (z, ns)) [x0, x1, some (.ref (cs.length + 1)), x3, x4, x5] (cs ++ [i0, .dT (encD D)]) = .nx [x0, x1, some (.ref (cs.length + 1)), some (.int z), some (.lst (strL ns)), some (tupV (sortN ns))] (cs ++ [i0, .dT (encD (addT D (z, ns)))]) := by
          unfold tupV at *
          generalize hN : strL ns = N at *
          generalize hM : strL (sortN ns) = M at *
          simp [tmV, hN, body_Form___init___1, hlen, hc', hask, hso, hmt, hty, hlk, hgd, hkp, hD, hpe, addT]
        rw [List.map_cons]
        have e1 : forL (gTurn gFI body_Form___init___1) (tmV (z, ns) :: ts.map tmV) [x0, x1, some (.ref (cs.length + 1)), x3, x4, x5] (cs ++ [i0, .dT (encD D)]) = forL (gTurn gFI body_Form___init___1) (ts.map tmV) [x0, x1, some (.ref (cs.length + 1)), some (.int z), some (.lst (strL ns)), some (tupV (sortN ns))] (cs ++ [i0, .dT (encD (addT D (z, ns)))]) := by
          show (gTurn gFI body_Form___init___1 (tmV (z, ns)) _ _).turn _ = _
          rw [step]; rfl
        rw [e1]
        exact ih
/-- the terms that are left -/
noncomputable def termsOf (D : Dm) : List Tm := ((sortF (D.map (·.1))).filter fun k => !((look D k).getD 0 == 0)).map fun k => ((look D k).getD 0, k)
noncomputable def formOf (ts : List Tm) : List Tm := termsOf (ts.foldl addT [])
def formV (ts : List Tm) : Pv := .obj "Form" [("terms", .tup (ts.map ttV))]
theorem look_some {D : Dm} {k : List (List Nat)} (h : k ∈ D.map (·.1)) : look D k = some ((look D k).getD 0) := by
  unfold look
  obtain ⟨e, he, rfl⟩ := List.mem_map.mp h
  cases hf : D.find? (fun x => decide (x.1 = e.1)) with
  | none =>
    have := List.find?_eq_none.mp hf e he
    simp at this
  | some x => rfl
theorem keys_list (D : Dm) (cs : Cells) : mListT [.dt (encD D)] cs = .ok (.lst ((D.map (·.1)).map tupV)) cs := by
  have : ((encD D).map fun kv => Pv.tup (kv.1.map pvK)) = (D.map (·.1)).map tupV := by
    unfold encD
    rw [List.map_map, List.map_map]
    apply List.map_congr_left
    intro e _
    show Pv.tup ((keyK e.1).map pvK) = tupV e.1
    unfold keyK tupV
    rw [List.map_map]
    rfl
  show Res.ok (Pv.lst ((encD D).map fun kv => Pv.tup (kv.1.map pvK))) cs = _
  rw [this]
theorem comp_ok {D : Dm} (hl : D.length ≤ 1000000) (x0 x1 x3 x4 x5 : Option Pv) (cs : Cells) :
    fLc (iAny (f1 (fun x cs => mSortK m_in_order [x] cs) (fCall mListT (fCons (fVar 2) fNil)))) (gN 5) (fTst (f2 oNeA (f2 oDGet (fVar 2) (fVar 5)) (fCon (.int 0)))) (fTup (fCons (f2 oDGet (fVar 2) (fVar 5)) (fCons (fVar 5) fNil))) [5] [x0, x1, some (.dt (encD D)), x3, x4, x5] cs = .ok (.lst ((termsOf D).map ttV)) cs := by
  have h1 := keys_list D cs
  have h2 := sorted_keys (ks := D.map (·.1)) (by rw [List.length_map]; omega) cs
  have hlen : (sortF (D.map (·.1))).length = D.length := by
    unfold sortF
    rw [List.length_mergeSort, List.length_map]
  have h := fLc_filter (L := sortF (D.map (·.1))) (f := tupV) (h := fun k => ttV ((look D k).getD 0, k)) (p := fun k => !((look D k).getD 0 == 0)) (src := iAny (f1 (fun x cs => mSortK m_in_order [x] cs) (fCall mListT (fCons (fVar 2) fNil)))) (g := gN 5) (c := fTst (f2 oNeA (f2 oDGet (fVar 2) (fVar 5)) (fCon (.int 0)))) (e := fTup (fCons (f2 oDGet (fVar 2) (fVar 5)) (fCons (fVar 5) fNil))) (vs := [5]) (sl := [x0, x1, some (.dt (encD D)), x3, x4, x5]) (cs := cs)
    (by simp [h1, h2, -List.map_map]) (by omega) fun k hk => by
      have hk' := look_some (sortF_mem.mp hk)
      have hlk : lookD cs (.dt (encD D)) (tupV k) = some (some (.int ((look D k).getD 0))) := by
        unfold lookD tupV
        simp only [dkR, dtR, dkOf, dtOf, keysP_strL, Option.map_some]
        rw [val_enc, hk']
        rfl
      have f2 : fits 2 = true := rfl
      generalize hz : (look D k).getD 0 = z at *
      cases hq : (z == 0) with
      | true => simp [oDGet, hlk, hq]
      | false =>
        have htt : ttV (z, k) = .tup [.int z, tupV k] := rfl
        rw [htt]
        simp [oDGet, hlk, hq, f2]
  rw [h]
  unfold termsOf
  rw [List.map_map]
  rfl
theorem form_raw {ts : List Tm} (hs : Sane ts) (cs : Cells) : match firstRf ts with
    | none => ∃ c, mkRaw "Form" m_Form___init__ [.lst (ts.map tmV)] cs = .ok (.ref cs.length) (cs ++ [.ins "Form" [("terms", .tup ((formOf ts).map ttV))], c])
    | some r => ∃ c d, mkRaw "Form" m_Form___init__ [.lst (ts.map tmV)] cs = .exn (rfE r).1 (rfE r).2 (cs ++ [c, d]) := by
  have hlo := init_loop (x0 := some (.ref cs.length)) (x1 := some (.lst (ts.map tmV))) (cs := cs) (i0 := .ins "Form" []) ts [] none none none hs.2 (by have := hs.1; simp; omega)
  have hfl : ∀ (L : List Tm) (D : Dm), (L.foldl addT D).length ≤ D.length + L.length := by
    intro L
    induction L with
    | nil => intro D; simp
    | cons t L ih =>
      intro D
      have h1 := ih (addT D t)
      have h2 := put_len D (sortN t.2) ((look D (sortN t.2)).getD 0 + t.1)
      show (L.foldl addT (addT D t)).length ≤ _
      have h3 : (addT D t).length ≤ D.length + 1 := h2
      simp only [List.length_cons]
      omega
  have e0 : encD [] = [] := rfl
  split
  · rename_i hn
    rw [hn] at hlo
    obtain ⟨y3, y4, y5, e⟩ := hlo
    have hc := comp_ok (D := ts.foldl addT []) (by have := hfl ts []; have := hs.1; simp at *; omega) (some (.ref cs.length)) (some (.lst (ts.map tmV))) y3 y4 y5 (cs ++ [.ins "Form" [], .dead])
    have hmt : ∀ c, mTuple [.lst ((formOf ts).map ttV)] c = .ok (.tup ((formOf ts).map ttV)) c := fun c => rfl
    have hct : (["Form"] : List Str).contains "Form" = true := by decide
    refine ⟨.dead, ?_⟩
    generalize hT : ts.map tmV = Tv at *
    have hc : fLc _ _ _ _ _ _ _ = Res.ok (.lst ((formOf ts).map ttV)) _ := hc
    generalize hF : (formOf ts).map ttV = Fv at *
    rw [e0] at e
    simp only [ap_mkRaw, m_Form___init__, body_Form___init__, ap_fnSem, ap_slots, List.map_cons, List.map_nil, List.length_cons, List.length_nil, ap_seq, ap_asg, ap_dnewT, Res.go_ok, RS.then_nx]
    simp [e, hc, hmt, hct, putP]
  · rename_i r hn
    rw [hn] at hlo
    obtain ⟨y3, y4, y5, D', e⟩ := hlo
    refine ⟨.ins "Form" [], .dT (encD D'), ?_⟩
    generalize hT : ts.map tmV = Tv at *
    rw [e0] at e
    simp [m_Form___init__, body_Form___init__, e]
theorem nr_ttV (t : Tm) : nr (ttV t) = true := by
  unfold ttV
  simp [nrs_map (f := fun l => Pv.str (S l)) (L := t.2) fun _ _ => rfl]
theorem nrf_rfE (r : Rf) : nrf (rfE r).2 = true := by cases r <;> simp [rfE]
theorem form_ok {ts : List Tm} (hs : Sane ts) (cs : Cells) : mk_Form [.lst (ts.map tmV)] cs = match firstRf ts with
    | none => .ok (formV (formOf ts)) cs
    | some r => .exn (rfE r).1 (rfE r).2 cs := by
  have h := form_raw hs cs
  split
  · rename_i hn
    rw [hn] at h
    obtain ⟨c, h⟩ := h
    refine shut_obj h (Nat.le_refl _) get_2a ?_
    simp [nrs_map (f := ttV) fun t _ => nr_ttV t]
  · rename_i r hn
    rw [hn] at h
    obtain ⟨c, d, h⟩ := h
    exact shut_exn h (nrf_rfE r)
end Lw
set_option Elab.async false
set_option linter.all false
set_option autoImplicit false
set_option maxRecDepth 100000
set_option maxHeartbeats 4000000
namespace Lw
open PySem AL
theorem nodup_sub_len {α : Type} [DecidableEq α] : ∀ (L T : List α), L.Nodup → (∀ x ∈ L, x ∈ T) → L.length ≤ T.length
  | [], T, _, _ => Nat.zero_le _
  | x :: L, T, h, hs => by
    rw [List.nodup_cons] at h
    have hx := hs x List.mem_cons_self
    have ih := nodup_sub_len L (T.erase x) h.2 fun y hy => (List.mem_erase_of_ne (fun e => h.1 (by rw [← e]; exact hy))).mpr (hs y (List.mem_cons_of_mem _ hy))
    rw [List.length_erase_of_mem hx] at ih
    have : 0 < T.length := List.length_pos_of_mem hx
    simp only [List.length_cons]
    omega
theorem any_str (x : List Nat) : ∀ T : List (List Nat), ((strL T).any fun y => eqP y (.str (S x))) = decide (x ∈ T)
  | [] => rfl
  | t :: T => by
    show (eqP (.str (S t)) (.str (S x)) || (strL T).any fun y => eqP y (.str (S x))) = _
    rw [any_str x T]
    show ((S t == S x) || decide (x ∈ T)) = _
    by_cases e : x = t
    · subst e; simp
    · have e2 : ¬ S t = S x := fun h => e (S_inj h).symm
      simp [e, e2]
theorem v_inL {neg : Bool} {cs : Cells} {tk : Pv} {T : List (List Nat)} (h : seqOf cs tk = some (strL T)) (x : List Nat) : oInG neg (.str (S x)) tk cs = .ok (.bl (if neg then !decide (x ∈ T) else decide (x ∈ T))) cs := by
  have hf : (strL T).all flatP = true := by
    rw [List.all_eq_true]
    intro p hp
    obtain ⟨t, _, rfl⟩ := List.mem_map.mp hp
    rfl
  have e : oInG neg (.str (S x)) tk cs = (match seqOf cs tk with
    | some ys => guard_ (flatP (.str (S x)) && ys.all flatP) (.ok (.bl (if neg then !ys.any (fun y => eqP y (.str (S x))) else ys.any fun y => eqP y (.str (S x)))) cs)
    | none => .bad) := by
    cases tk with
    | str z => cases h
    | _ => rfl
  rw [e, h]
  show guard_ (flatP (.str (S x)) && (strL T).all flatP) _ = _
  rw [hf, any_str]
  rfl
def alphaL : List Nat := [97, 98, 99, 100, 101, 102, 103, 104, 105, 106, 107, 108, 109, 110, 111, 112, 113, 114, 115, 116, 117, 118, 119, 120, 121, 122, 48, 49, 50, 51, 52, 53, 54, 55, 56, 57]
theorem alpha_at {d : Int} (h0 : 0 ≤ d) (h1 : d < 36) : ∃ c, L2.atI alphaL d = some c ∧ nameCh c = true ∧ (d < 26 → c ∈ letL) := by
  obtain ⟨n, rfl⟩ : ∃ n : Nat, d = (n : Int) := ⟨d.toNat, by omega⟩
  have hn : n < 36 := by omega
  have key : ∀ n : Fin 36, ∃ c, alphaL[n.val]? = some c ∧ nameCh c = true ∧ (n.val < 26 → c ∈ letL) := by
    intro n
    refine ⟨alphaL[n.val]'(by have := n.isLt; simpa [alphaL] using this), List.getElem?_eq_getElem _, ?_⟩
    revert n
    decide
  obtain ⟨c, h1, h2, h3⟩ := key ⟨n, hn⟩
  exact ⟨c, L2.atI_nat h1, h2, fun h => h3 (by simp only; omega)⟩
/-- a name to which one figure may be added -/
def Stem (l : List Nat) : Prop := ∃ c r, l = c :: r ∧ r.length ≤ 5 ∧ c ∈ letL ∧ (∀ x ∈ l, nameCh x = true)
theorem Stem.name {l : List Nat} (h : Stem l) : isName l = true := by
  obtain ⟨c, r, rfl, h1, h2, h3⟩ := h
  show (decide (r.length ≤ 7) && decide (c ∈ letL) && (c :: r).all nameCh) = true
  rw [decide_eq_true (show r.length ≤ 7 by omega), decide_eq_true h2, List.all_eq_true.mpr h3]
  rfl
theorem Stem.more {l : List Nat} (h : Stem l) {n : Nat} (hn : n < 10) : isName (l ++ TL.numL n) = true := by
  obtain ⟨c, r, rfl, h1, h2, h3⟩ := h
  rw [TL.numL_lt hn]
  show (decide ((r ++ [48 + n]).length ≤ 7) && decide (c ∈ letL) && (c :: (r ++ [48 + n])).all nameCh) = true
  have h4 : nameCh (48 + n) = true := by
    have : ∀ n : Fin 10, nameCh (48 + n.val) = true := by decide
    exact this ⟨n, hn⟩
  rw [decide_eq_true (show (r ++ [48 + n]).length ≤ 7 by simp; omega), decide_eq_true h2]
  have : (c :: (r ++ [48 + n])).all nameCh = true := by
    rw [List.all_eq_true]
    intro x hx
    have hx : x ∈ (c :: r) ++ [48 + n] := hx
    rcases List.mem_append.mp hx with hx | hx
    · exact h3 x hx
    · have : x = 48 + n := by simpa using hx
      rw [this]; exact h4
  rw [this]
  rfl
def wordsL : List (List Nat) := [[112, 117, 116], [97, 110, 121], [111, 114], [101, 105, 116, 104, 101, 114], [114, 111, 117, 110, 100, 115], [99, 97, 108, 108], [109, 97, 114, 107], [110, 97, 109, 101, 115], [112, 97, 114, 116], [110, 111, 110, 101]]
theorem word_at {d : Int} (h0 : 0 ≤ d) (h1 : d < 10) : ∃ l, L2.atI (strL wordsL) d = some (.str (S l)) ∧ Stem l := by
  obtain ⟨n, rfl⟩ : ∃ n : Nat, d = (n : Int) := ⟨d.toNat, by omega⟩
  have hn : n < wordsL.length := by have : wordsL.length = 10 := rfl; omega
  refine ⟨wordsL[n], L2.atI_nat (by rw [List.getElem?_map, List.getElem?_eq_getElem hn]; rfl), ?_⟩
  have key : ∀ l ∈ wordsL, l.head? ≠ none ∧ l.tail.length ≤ 5 ∧ (∀ c, l.head? = some c → c ∈ letL) ∧ (∀ x ∈ l, nameCh x = true) := by decide
  obtain ⟨k1, k2, k3, k4⟩ := key _ (List.getElem_mem hn)
  cases hw : wordsL[n] with
  | nil => rw [hw] at k1; simp at k1
  | cons c r =>
    rw [hw] at k2 k3 k4
    exact ⟨c, r, rfl, k2, k3 c rfl, k4⟩
def cand (l : List Nat) (n : Nat) : List Nat := if n = 0 then l else l ++ TL.numL n
theorem cand_inj {l : List Nat} {m n : Nat} (h : cand l m = cand l n) : m = n := by
  unfold cand at h
  by_cases hm : m = 0
  · by_cases hn : n = 0
    · rw [hm, hn]
    · rw [if_pos hm, if_neg hn] at h
      have := congrArg List.length h
      rw [List.length_append] at this
      have h2 := TL.numL_ne n
      have : (TL.numL n).length = 0 := by omega
      exact absurd (List.length_eq_zero_iff.mp this) h2
  · by_cases hn : n = 0
    · rw [if_neg hm, if_pos hn] at h
      have := congrArg List.length h
      rw [List.length_append] at this
      have h2 := TL.numL_ne m
      have : (TL.numL m).length = 0 := by omega
      exact absurd (List.length_eq_zero_iff.mp this) h2
    · rw [if_neg hm, if_neg hn] at h
      exact TL.numL_inj (List.append_cancel_left h)
theorem cand_few {l : List Nat} {T : List (List Nat)} {n : Nat} (h : ∀ i, i ≤ n → cand l i ∈ T) : n + 1 ≤ T.length := by
  have := nodup_sub_len ((List.range (n + 1)).map (cand l)) T (by
    rw [List.nodup_iff_pairwise_ne, List.pairwise_map]
    exact (List.nodup_iff_pairwise_ne.mp List.nodup_range).imp fun hne e => hne (cand_inj e)) fun x hx => by
    obtain ⟨i, hi, rfl⟩ := List.mem_map.mp hx
    exact h i (by have := List.mem_range.mp hi; omega)
  simpa using this
theorem stem_loop {k : Nat} {x1 x3 x6 x7 : Option Pv} : ∀ (ps : List Pv) (l : List Nat) (cs : Cells) (x5 : Option Pv), GS cs k → (∃ c r, l = c :: r ∧ r.length + ps.length ≤ 3 ∧ c ∈ letL ∧ ∀ x ∈ l, nameCh x = true) →
    ∃ l' cs' y5, forL (gTurn (gN 5) body_law_name_1) ps [some (.ref k), x1, some (.str (S alphaL)), x3, some (.str (S l)), x5, x6, x7] cs = .nx [some (.ref k), x1, some (.str (S alphaL)), x3, some (.str (S l')), y5, x6, x7] cs' ∧ Stem l' ∧ Dr k cs cs'
  | [], l, cs, x5, hg, ⟨c, r, e, h1, h2, h3⟩ => ⟨l, cs, x5, rfl, ⟨c, r, e, by simp at h1; omega, h2, h3⟩, hg.refl⟩
  | p :: ps, l, cs, x5, hg, ⟨c, r, e, h1, h2, h3⟩ => by
    obtain ⟨d, c1, e1, d0, d1, f1⟩ := digit_ok hg (n := 36) (by decide) (by decide)
    obtain ⟨a, ha, hn, _⟩ := alpha_at d0 d1
    simp only [List.length_cons] at h1
    have hix := v_ixS (cs := c1) ha (show fits alphaL.length = true from rfl)
    have hf : fits (l.length + 1) = true := fits_ok (by subst e; simp only [List.length_cons]; omega)
    obtain ⟨l', cs', y5, e2, s2, q2⟩ := stem_loop (x1 := x1) (x3 := x3) (x6 := x6) (x7 := x7) ps (l ++ [a]) c1 (some p) (hg.dr f1) ⟨c, r ++ [a], by rw [e]; rfl, by simp; omega, h2, fun x hx => by
      rcases List.mem_append.mp hx with hx | hx
      · exact h3 x hx
      · have : x = a := by simpa using hx
        rw [this]; exact hn⟩
    refine ⟨l', cs', y5, ?_, s2, f1.trans q2⟩
    have step : gTurn (gN 5) body_law_name_1 p [some (.ref k), x1, some (.str (S alphaL)), x3, some (.str (S l)), x5, x6, x7] cs = .nx [some (.ref k), x1, some (.str (S alphaL)), x3, some (.str (S (l ++ [a]))), some p, x6, x7] c1 := by
      simp [body_law_name_1, e1, hix, hf, S_append, -v_addS]
    show (gTurn (gN 5) body_law_name_1 p _ cs).turn _ = _
    rw [step]
    exact e2
theorem name_draw {cs : Cells} {k : Nat} (h : GS cs k) {tk : Pv} {T : List (List Nat)} (hT : ∀ cs', Dr k cs cs' → seqOf cs' tk = some (strL T)) (hl : T.length ≤ 9) : ∃ l cs', m_law_name [.ref k, tk] cs = .ok (.str (S l)) cs' ∧ isName l = true ∧ l ∉ T ∧ Dr k cs cs' := by
  obtain ⟨kd, c1, e1, k0, k1, f1⟩ := digit_ok h (n := 7) (by decide) (by decide)
  obtain ⟨d2, c2, e2, a2, b2, q2⟩ := digit_ok (h.dr f1) (n := 26) (by decide) (by decide)
  obtain ⟨d3, c3, e3, a3, b3, f3⟩ := digit_ok ((h.dr f1).dr q2) (n := 4) (by decide) (by decide)
  obtain ⟨n3, rfl⟩ : ∃ n : Nat, d3 = (n : Int) := ⟨d3.toNat, by omega⟩
  obtain ⟨a, ha, hn, hlt⟩ := alpha_at a2 (by omega)
  have hix := v_ixS (cs := c2) ha (show fits alphaL.length = true from rfl)
  have g3 := ((h.dr f1).dr q2).dr f3
  obtain ⟨l4, c4, y5, e4, s4, f4⟩ := stem_loop (k := k) (x1 := some tk) (x3 := some (.int kd)) (x6 := none) (x7 := none) ((List.range n3).map fun (j : Nat) => Pv.int (j : Int)) [a] c3 none g3 ⟨a, [], rfl, by simp; omega, hlt b2, fun x hx => by
    have : x = a := by simpa using hx
    rw [this]; exact hn⟩
  have g4 := g3.dr f4
  have rg : rngOk (n3 : Int) = true := rngOk.of (by omega) (by omega)
  have f0 : fits 0 = true := rfl
  have f10 : fits 10 = true := rfl
  -- the word
  obtain ⟨l5, c5, e5, s5, f5⟩ : ∃ l5 c5, sIf (fTst (f2 oEqA (fVar 3) (fCon (.int 6)))) (sAsg 4 (f2 oIx (fLst (fCons (fCon (.str (S [112, 117, 116]))) (fCons (fCon (.str (S [97, 110, 121]))) (fCons (fCon (.str (S [111, 114]))) (fCons (fCon (.str (S [101, 105, 116, 104, 101, 114]))) (fCons (fCon (.str (S [114, 111, 117, 110, 100, 115]))) (fCons (fCon (.str (S [99, 97, 108, 108]))) (fCons (fCon (.str (S [109, 97, 114, 107]))) (fCons (fCon (.str (S [110, 97, 109, 101, 115]))) (fCons (fCon (.str (S [112, 97, 114, 116]))) (fCons (fCon (.str (S [110, 111, 110, 101]))) fNil))))))))))) (fCall m_law_digit (fCons (fVar 0) (fCons (fCon (.int 10)) fNil))))) sPass [some (.ref k), some tk, some (.str (S alphaL)), some (.int kd), some (.str (S l4)), y5, none, none] c4 = .nx [some (.ref k), some tk, some (.str (S alphaL)), some (.int kd), some (.str (S l5)), y5, none, none] c5 ∧ Stem l5 ∧ Dr k c4 c5 := by
    by_cases hk : (kd == 6) = true
    · obtain ⟨d6, c6, e6, a6, b6, f6⟩ := digit_ok g4 (n := 10) (by decide) (by decide)
      obtain ⟨w, hw, sw⟩ := word_at a6 b6
      have hw : L2.atI [Pv.str (S [112, 117, 116]), Pv.str (S [97, 110, 121]), Pv.str (S [111, 114]), Pv.str (S [101, 105, 116, 104, 101, 114]), Pv.str (S [114, 111, 117, 110, 100, 115]), Pv.str (S [99, 97, 108, 108]), Pv.str (S [109, 97, 114, 107]), Pv.str (S [110, 97, 109, 101, 115]), Pv.str (S [112, 97, 114, 116]), Pv.str (S [110, 111, 110, 101])] d6 = some (.str (S w)) := hw
      exact ⟨w, c6, by simp [hk, e6, f10, hw], sw, f6⟩
    · have hk : (kd == 6) = false := by simpa using hk
      exact ⟨l4, c4, by simp [hk], s4, g4.refl⟩
  have F5 := ((((f1.trans q2).trans f3).trans f4).trans f5)
  have hseq := hT c5 F5
  have hlen5 : l5.length ≤ 6 := by
    obtain ⟨c, r, rfl, h1, _, _⟩ := s5
    simp only [List.length_cons]; omega
  have hwh := while_inv (c := fTst (f2 oIn (fVar 6) (fVar 1))) (b := body_law_name_2) (P := fun m sl cs => cs = c5 ∧ ∃ n : Nat, n + m = T.length ∧ (∀ i, i < n → cand l5 i ∈ T) ∧ sl = [some (.ref k), some tk, some (.str (S alphaL)), some (.int kd), some (.str (S l5)), y5, some (.str (S (cand l5 n))), some (.int (n : Int))])
    (Q := fun sl cs => cs = c5 ∧ ∃ n : Nat, n ≤ T.length ∧ cand l5 n ∉ T ∧ ∃ y7, sl = [some (.ref k), some tk, some (.str (S alphaL)), some (.int kd), some (.str (S l5)), y5, some (.str (S (cand l5 n))), y7]) (fun m sl cs hp => by
      obtain ⟨rfl, n, hnm, hall, rfl⟩ := hp
      have hin := v_inL (neg := false) hseq (cand l5 n)
      by_cases hq : cand l5 n ∈ T
      · right
        have hfew := cand_few (l := l5) (T := T) (n := n) fun i hi => by
          by_cases e : i = n
          · rw [e]; exact hq
          · exact hall i (by omega)
        have hn9 : n + 1 < 10 := by omega
        have hlog : (((n : Int) + 1).natAbs.log2 < 1920) := by
          have : ((n : Int) + 1).natAbs < 2 ^ 10 := by omega
          exact Nat.lt_trans (log2_lt this (by decide)) (by decide)
        have hil : intL ((n : Int) + 1) = TL.numL (n + 1) := rfl
        have hnl : (TL.numL (n + 1)).length = 1 := by rw [TL.numL_lt hn9]; rfl
        have hff : fits (l5.length + 1) = true := fits_ok (by omega)
        refine ⟨cs, [some (.ref k), some tk, some (.str (S alphaL)), some (.int kd), some (.str (S l5)), y5, some (.str (S (cand l5 (n + 1)))), some (.int ((n + 1 : Nat) : Int))], cs, m - 1, ?_, ?_, by omega, rfl, n + 1, by omega, fun i hi => ?_, rfl⟩
        · simp [hin, hq]
        · have ec : cand l5 (n + 1) = l5 ++ TL.numL (n + 1) := by unfold cand; rw [if_neg (by omega)]
          rw [ec]
          simp [body_law_name_2, hlog, hil, hnl, hff, S_append, -v_addS]
        · by_cases e : i = n
          · rw [e]; exact hq
          · exact hall i (by omega)
      · left
        exact ⟨cs, by simp [hin, hq], rfl, n, by omega, hq, _, rfl⟩) (m := T.length) (sl := [some (.ref k), some tk, some (.str (S alphaL)), some (.int kd), some (.str (S l5)), y5, some (.str (S l5)), some (.int 0)]) (cs := c5) (by omega) ⟨rfl, 0, by omega, fun i hi => by omega, rfl⟩
  obtain ⟨sl7, c7, e7, rfl, n, hn1, hn2, y7, rfl⟩ := hwh
  refine ⟨cand l5 n, c7, ?_, ?_, hn2, F5⟩
  · have eal : [97, 98, 99, 100, 101, 102, 103, 104, 105, 106, 107, 108, 109, 110, 111, 112, 113, 114, 115, 116, 117, 118, 119, 120, 121, 122, 48, 49, 50, 51, 52, 53, 54, 55, 56, 57] = alphaL := rfl
    unfold m_law_name body_law_name
    rw [eal]
    generalize S alphaL = Al at *
    rw [ap_fnSem]
    simp only [ap_slots, List.map_cons, List.map_nil, List.length_cons, List.length_nil, ap_seq, ap_asg, ap_con, Res.go_ok, RS.then_nx, ap_call, ap_cons, ap_nil, ap_var0, ap_varS, Res.bind_ok, List.cons_append, List.nil_append, List.set_cons_zero, List.set_cons_succ, List.replicate, e1, ap_f2, e2, hix, ap_for, ap_iRange1, e3, rg, guard_true, ap_forS, Int.toNat_natCast, e4, e5, e7, ap_ret, ap_out_rt]
  · by_cases hz : n = 0
    · subst hz; exact s5.name
    · unfold cand
      rw [if_neg hz]
      exact s5.more (by omega)
end Lw
set_option Elab.async false
set_option linter.all false
set_option autoImplicit false
set_option maxRecDepth 100000
set_option maxHeartbeats 4000000
namespace Lw
open PySem AL
theorem nrs_strL : ∀ T : List (List Nat), nrs (strL T) = true
  | [] => by simp
  | l :: T => by
    have h := nrs_strL T
    show nrs (.str (S l) :: strL T) = true
    simp [h]
theorem fz_stC (n : Nat) (ex : Option Nat) (cs : Cells) (s : Int × Int × Int) : FzC n ex cs (stC s) (stC s) := .lst (nrs_fz (by simp))
theorem shut_dr {m : FN} {ps : List Pv} {cs a ex : Cells} {k : Nat} {v : Pv} (h : m ps cs = .ok v (a ++ ex)) (hg : GS cs k) (hd : Dr k cs a) (hv : nr v = true) : shut false m ps cs = .ok v a := by
  obtain ⟨s, hs, rfl⟩ := hd
  obtain ⟨s0, h0, _⟩ := hg
  exact shut_set h h0 (fz_stC _ _ _ s) hv
theorem seq_end {a b : Cells} {k : Nat} {T : List (List Nat)} (hk : k < a.length) (hd : Dr k (a ++ [.lst (strL T)]) b) : seqOf b (.ref a.length) = some (strL T) := by
  obtain ⟨c, rfl, hc⟩ := hd.split hk
  have hl := hc.len
  show (match (c ++ [Co.lst (strL T)])[a.length]? with | some (.lst xs) => some xs | _ => none) = _
  rw [← hl, get_end]
theorem names_loop {k : Nat} {x1 : Option Pv} : ∀ (ps : List Pv) (T : List (List Nat)) (a : Cells) (n : Nat) (x3 : Option Pv), GS a k → n = a.length → T.length + ps.length ≤ 10 → T.Nodup → (∀ l ∈ T, isName l = true) →
    ∃ (T' : List (List Nat)) (a' : Cells) (y3 : Option Pv), forL (gTurn (gN 3) body_law_names_1) ps [some (.ref k), x1, some (.ref n), x3] (a ++ [.lst (strL T)]) = .nx [some (.ref k), x1, some (.ref n), y3] (a' ++ [.lst (strL T')]) ∧ T'.length = T.length + ps.length ∧ T'.Nodup ∧ (∀ l ∈ T', isName l = true) ∧ Dr k a a'
  | [], T, a, n, x3, hg, hn, hl, nd, hs => ⟨T, a, x3, rfl, rfl, nd, hs, hg.refl⟩
  | p :: ps, T, a, n, x3, hg, hn, hl, nd, hs => by
    simp only [List.length_cons] at hl
    subst hn
    obtain ⟨l, c1, e1, n1, q1, r1⟩ := name_draw (hg.app [.lst (strL T)]) (tk := .ref a.length) (T := T) (fun cs' hd => seq_end hg.lt hd) (by omega)
    obtain ⟨b, rfl, hb⟩ := r1.split hg.lt
    have hbl := hb.len
    have hget : (b ++ [Co.lst (strL T)])[a.length]? = some (.lst (strL T)) := by rw [← hbl]; exact get_end _
    have hap := v_append hget (by rw [List.length_map]; omega) (.str (S l))
    have hset : (b ++ [Co.lst (strL T)]).set a.length (.lst (strL T ++ [.str (S l)])) = b ++ [.lst (strL (T ++ [l]))] := by rw [← hbl, set_end]; simp
    rw [hset] at hap
    have hty : tyIs "list" (.ref a.length) (a ++ [Co.lst (strL T)]) = true := v_tyList (get_end _)
    have step : gTurn (gN 3) body_law_names_1 p [some (.ref k), x1, some (.ref a.length), x3] (a ++ [.lst (strL T)]) = .nx [some (.ref k), x1, some (.ref a.length), some p] (b ++ [.lst (strL (T ++ [l]))]) := by
      generalize hM : strL T = M at *
      generalize hN : strL (T ++ [l]) = N at *
      simp [body_law_names_1, hty, e1, hap]
    obtain ⟨T', a', y3, e2, h1, h2, h3, h4⟩ := names_loop (x1 := x1) ps (T ++ [l]) b a.length (some p) (hg.dr hb) hbl.symm (by simp; omega) (by
      rw [List.nodup_append]
      refine ⟨nd, by simp, fun x hx y hy => ?_⟩
      have : y = l := by simpa using hy
      intro e
      rw [e, this] at hx
      exact q1 hx) (fun x hx => by
      rcases List.mem_append.mp hx with hx | hx
      · exact hs x hx
      · have : x = l := by simpa using hx
        rw [this]; exact n1)
    refine ⟨T', a', y3, ?_, by rw [h1]; simp; omega, h2, h3, hb.trans h4⟩
    show (gTurn (gN 3) body_law_names_1 p _ _).turn _ = _
    rw [step]
    exact e2
theorem names_draw {cs : Cells} {k : Nat} (h : GS cs k) {n : Nat} (hn : n ≤ 10) : ∃ T cs', m_law_names [.ref k, .int (n : Int)] cs = .ok (.lst (strL T)) cs' ∧ T.length = n ∧ T.Nodup ∧ (∀ l ∈ T, isName l = true) ∧ Dr k cs cs' := by
  obtain ⟨T, a, y3, e, h1, h2, h3, h4⟩ := names_loop (x1 := some (.int (n : Int))) ((List.range n).map fun (j : Nat) => Pv.int (j : Int)) [] cs cs.length none h rfl (by simp; omega) List.nodup_nil (fun _ hx => by simp at hx)
  refine ⟨T, a, ?_, by simpa using h1, h2, h3, h4⟩
  have rg : rngOk (n : Int) = true := rngOk.of (by omega) (by omega)
  have f0 : fits 0 = true := rfl
  have hl := h4.len
  have hget : (a ++ [Co.lst (strL T)])[cs.length]? = some (.lst (strL T)) := by rw [← hl]; exact get_end _
  have hset : (a ++ [Co.lst (strL T)]).set cs.length .dead = a ++ [.dead] := by rw [← hl, set_end]
  refine shut_dr (ex := [.dead]) ?_ h h4 (by show nrs _ = true; exact nrs_strL T)
  have e : forL (gTurn (gN 3) body_law_names_1) ((List.range n).map fun (j : Nat) => Pv.int (j : Int)) [some (.ref k), some (.int (n : Int)), some (.ref cs.length), none] (cs ++ [.lst []]) = .nx [some (.ref k), some (.int (n : Int)), some (.ref cs.length), y3] (a ++ [.lst (strL T)]) := e
  generalize hM : strL T = M at *
  simp [body_law_names, f0, rg, e, hget, hset]
theorem nrs_tms : ∀ T : List Tm, nrs (T.map tmV) = true
  | [] => by simp
  | t :: T => by
    have h := nrs_tms T
    have h2 := nrs_strL t.2
    show nrs (.tup [.int t.1, .lst (strL t.2)] :: T.map tmV) = true
    simp [h, h2]
end Lw
set_option Elab.async false
set_option linter.all false
set_option autoImplicit false
set_option maxRecDepth 100000
set_option maxHeartbeats 4000000
namespace Lw
open PySem AL
def isum : List Int → Int
  | [] => 0
  | x :: xs => x + isum xs
theorem isum_append : ∀ a b : List Int, isum (a ++ b) = isum a + isum b
  | [], b => by simp [isum]
  | x :: a, b => by
    have := isum_append a b
    simp only [List.cons_append, isum, this]; omega
def pr (v : List Nat → Int) : List (List Nat) → Int
  | [] => 1
  | l :: ns => v l * pr v ns
theorem pr_perm {v : List Nat → Int} {a b : List (List Nat)} (h : a.Perm b) : pr v a = pr v b := by
  induction h with
  | nil => rfl
  | cons x _ ih => simp only [pr, ih]
  | swap x y l => simp only [pr]; rw [← Int.mul_assoc, ← Int.mul_assoc, Int.mul_comm (v y)]
  | trans _ _ i1 i2 => exact i1.trans i2
theorem pr_sort (v : List Nat → Int) (ns : List (List Nat)) : pr v (sortN ns) = pr v ns := pr_perm (List.mergeSort_perm ns _)
def sumV (v : List Nat → Int) (ts : List Tm) : Int := isum (ts.map fun t => t.1 * pr v t.2)
def sumD (v : List Nat → Int) (D : Dm) : Int := isum (D.map fun e => e.2 * pr v e.1)
def KN (D : Dm) : Prop := (D.map (·.1)).Nodup
theorem look_none {D : Dm} {k : List (List Nat)} (h : k ∉ D.map (·.1)) : look D k = none := by
  unfold look
  rw [List.find?_eq_none.mpr]
  · rfl
  · intro e he hk
    exact h (List.mem_map.mpr ⟨e, he, of_decide_eq_true hk⟩)
theorem look_cons (e : List (List Nat) × Int) (D : Dm) (k : List (List Nat)) : look (e :: D) k = if e.1 = k then some e.2 else look D k := by
  unfold look
  rw [List.find?_cons]
  by_cases h : e.1 = k
  · simp [h]
  · simp [h]
theorem any_key {D : Dm} {k : List (List Nat)} : (D.any fun e => decide (e.1 = k)) = true ↔ k ∈ D.map (·.1) := by
  rw [List.any_eq_true, List.mem_map]
  constructor
  · rintro ⟨e, he, hk⟩; exact ⟨e, he, of_decide_eq_true hk⟩
  · rintro ⟨e, he, hk⟩; exact ⟨e, he, decide_eq_true hk⟩
theorem repl_keys (k : List (List Nat)) (z : Int) : ∀ D : Dm, (D.map fun e => if e.1 = k then (e.1, z) else e).map (·.1) = D.map (·.1)
  | [] => rfl
  | e :: D => by
    rw [List.map_cons, List.map_cons, List.map_cons, repl_keys k z D]
    by_cases h : e.1 = k
    · rw [if_pos h]
    · rw [if_neg h]
theorem put_kn {D : Dm} {k : List (List Nat)} {z : Int} (h : KN D) : KN (put D k z) := by
  unfold put
  split
  · unfold KN; rw [repl_keys]; exact h
  · rename_i hk
    have hk : k ∉ D.map (·.1) := fun q => hk (any_key.mpr q)
    unfold KN at *
    rw [List.map_append, List.nodup_append]
    refine ⟨h, by simp, fun a ha b hb e => ?_⟩
    have : b = k := by simpa using hb
    rw [e, this] at ha
    exact hk ha
theorem repl_none {k : List (List Nat)} {z : Int} {D : Dm} (h : k ∉ D.map (·.1)) : (D.map fun e => if e.1 = k then (e.1, z) else e) = D := by
  conv => rhs; rw [← List.map_id D]
  refine List.map_congr_left fun e he => ?_
  rw [if_neg fun q => h (List.mem_map.mpr ⟨e, he, q⟩)]; rfl
theorem repl_sum (v : List Nat → Int) (k : List (List Nat)) (z : Int) : ∀ D : Dm, KN D → k ∈ D.map (·.1) → sumD v (D.map fun e => if e.1 = k then (e.1, z) else e) = sumD v D + (z - (look D k).getD 0) * pr v k
  | [], _, h => by simp at h
  | e :: D, hn, h => by
    unfold KN at hn
    rw [List.map_cons, List.nodup_cons] at hn
    rw [look_cons]
    by_cases hk : e.1 = k
    · rw [if_pos hk, List.map_cons, if_pos hk, repl_none (by rw [← hk]; exact hn.1)]
      show z * pr v e.1 + sumD v D = e.2 * pr v e.1 + sumD v D + (z - e.2) * pr v k
      rw [hk, Int.sub_mul]; omega
    · rw [if_neg hk, List.map_cons, if_neg hk]
      have hm : k ∈ D.map (·.1) := by
        rcases List.mem_cons.mp h with h | h
        · exact absurd h.symm hk
        · exact h
      have ih := repl_sum v k z D hn.2 hm
      show e.2 * pr v e.1 + sumD v _ = e.2 * pr v e.1 + sumD v D + _
      rw [ih]; omega
theorem put_sum (v : List Nat → Int) {D : Dm} (k : List (List Nat)) (z : Int) (h : KN D) : sumD v (put D k z) = sumD v D + (z - (look D k).getD 0) * pr v k := by
  unfold put
  split
  · rename_i hk
    exact repl_sum v k z D h (any_key.mp hk)
  · rename_i hk
    have hk : k ∉ D.map (·.1) := fun q => hk (any_key.mpr q)
    rw [look_none hk]
    unfold sumD
    rw [List.map_append, isum_append]
    simp [isum]
theorem addT_sum (v : List Nat → Int) {D : Dm} (t : Tm) (h : KN D) : sumD v (addT D t) = sumD v D + t.1 * pr v t.2 := by
  unfold addT
  rw [put_sum v _ _ h, pr_sort]
  have : (look D (sortN t.2)).getD 0 + t.1 - (look D (sortN t.2)).getD 0 = t.1 := by omega
  rw [this]
theorem fold_sum (v : List Nat → Int) : ∀ (ts : List Tm) (D : Dm), KN D → KN (ts.foldl addT D) ∧ sumD v (ts.foldl addT D) = sumD v D + sumV v ts
  | [], D, h => ⟨h, by show sumD v D = sumD v D + 0; omega⟩
  | t :: ts, D, h => by
    obtain ⟨h1, h2⟩ := fold_sum v ts (addT D t) (put_kn h)
    refine ⟨h1, ?_⟩
    show sumD v (ts.foldl addT (addT D t)) = _
    rw [h2, addT_sum v t h]
    show _ = sumD v D + (t.1 * pr v t.2 + sumV v ts)
    omega
theorem firstRf_none {ts : List Tm} (h : ∀ t ∈ ts, t.2.length ≤ 2 ∧ ∀ l ∈ t.2, isName l = true) : firstRf ts = none := by
  induction ts with
  | nil => rfl
  | cons t ts ih =>
    obtain ⟨z, ns⟩ := t
    have h0 := h (z, ns) List.mem_cons_self
    have hf : ns.find? (fun l => !isName l) = none := List.find?_eq_none.mpr fun l hl => by
      have := h0.2 l hl
      simp [this]
    unfold firstRf
    rw [if_neg (by have := h0.1; simp only at this; omega), hf]
    exact ih fun t ht => h t (List.mem_cons_of_mem _ ht)
end Lw
set_option Elab.async false
set_option linter.all false
set_option autoImplicit false
set_option maxRecDepth 100000
set_option maxHeartbeats 4000000
namespace Lw
open PySem AL PySem.W PyProof.Rows
theorem S_toList (l : List Nat) : (S l).cps.toList = l := by simp [S]
theorem rowLt_strs : ∀ xs ys : List (List Nat), rowLt (xs.map strD) (ys.map strD) = decide (xs < ys)
  | [], [] => by
    have e : rowLt [] [] = false := lex_irrefl _
    simp [e]
  | [], y :: ys => by
    have e : rowLt [] (PyData.str (S y) :: ys.map strD) = true := by
      unfold rowLt
      rw [toks_all_cons]
      simp only [keyToksAll]
      rw [lex_diff (O := itemOrd) (by simp)]
      rfl
    show rowLt [] (PyData.str (S y) :: ys.map strD) = _
    rw [e]; simp
  | x :: xs, [] => by
    have e : rowLt (PyData.str (S x) :: xs.map strD) [] = false := by
      unfold rowLt
      rw [toks_all_cons]
      simp only [keyToksAll]
      rw [lex_diff (O := itemOrd) (by simp)]
      rfl
    show rowLt (PyData.str (S x) :: xs.map strD) [] = _
    rw [e]; simp
  | x :: xs, y :: ys => by
    have e : rowLt (PyData.str (S x) :: xs.map strD) (PyData.str (S y) :: ys.map strD) = if x = y then rowLt (xs.map strD) (ys.map strD) else decide (x < y) := by
      unfold rowLt
      rw [dataLt_cons (by simp [alike]), dataLt_str, S_toList, S_toList]
      have hq : (PyData.eqv (PyData.str (S x)) (PyData.str (S y)) = true) = (x = y) := by
        simp only [PyData.eqv, beq_iff_eq]
        exact propext ⟨fun h => by rw [← S_toList x, ← S_toList y, h], fun h => by rw [h]⟩
      simp only [hq]
    show rowLt (PyData.str (S x) :: xs.map strD) (PyData.str (S y) :: ys.map strD) = _
    rw [e]
    by_cases h : x = y
    · rw [if_pos h, rowLt_strs xs ys]
      simp [h, List.cons_lt_cons_iff]
    · rw [if_neg h]
      simp [h, List.cons_lt_cons_iff]
theorem eqv_str (x y : List Nat) : (PyData.eqv (strD x) (strD y) = true) ↔ x = y := by
  unfold strD
  simp only [PyData.eqv, beq_iff_eq]
  exact ⟨fun h => by rw [← S_toList x, ← S_toList y, h], fun h => by rw [h]⟩
theorem eqvAll_strs : ∀ a b : List (List Nat), (PyData.eqvAll (a.map strD) (b.map strD) = true) ↔ a = b
  | [], [] => by simp [PyData.eqvAll]
  | [], y :: ys => by simp [PyData.eqvAll]
  | x :: xs, [] => by simp [PyData.eqvAll]
  | x :: xs, y :: ys => by
    rw [List.map_cons, List.map_cons, PyData.eqvAll, Bool.and_eq_true, eqv_str, eqvAll_strs xs ys]
    simp
/-- the order of a form's terms: more names first, then by the names -/
def kLe (a b : List (List Nat)) : Bool := decide (b.length < a.length ∨ (a.length = b.length ∧ a ≤ b))
theorem dataLt_key (x y : Int) (a b : List (List Nat)) : dataLt (.tuple [.int x, .tuple (a.map strD)]) (.tuple [.int y, .tuple (b.map strD)]) = decide (x < y ∨ (x = y ∧ a < b)) := by
  rw [dataLt_pair (by simp [alike]) (by simp only [alike]; rw [strD_map, strD_map]; exact alike_strs _ _), dataLt_int, dataLt_tuple]
  have e : lexLt itemOrd (keyToksAll (a.map strD)) (keyToksAll (b.map strD)) = decide (a < b) := rowLt_strs a b
  rw [e]
  simp only [PyData.eqv, beq_iff_eq]
  by_cases h1 : x = y
  · subst h1
    simp only [if_true, true_and, Int.lt_irrefl, false_or]
    by_cases h2 : a = b
    · subst h2
      have : ¬ a < a := List.lt_irrefl a
      simp [this]
    · exact if_neg fun hq => h2 ((eqvAll_strs a b).mp hq)
  · simp [h1]
theorem le_iff (a b : List (List Nat)) : a ≤ b ↔ ¬ b < a := List.not_lt.symm
theorem dataLe_key {f : List (List Nat) → Int} (hf : ∀ a b : List (List Nat), f a < f b ↔ b.length < a.length) : dataLe false (fun k : List (List Nat) => PyData.tuple [.int (f k), .tuple (k.map strD)]) = kLe := by
  funext a b
  show (!dataLt (.tuple [.int (f b), .tuple (b.map strD)]) (.tuple [.int (f a), .tuple (a.map strD)])) = _
  rw [dataLt_key]
  unfold kLe
  have h1 := hf b a
  have h2 := hf a b
  rw [← decide_not]
  apply decide_eq_decide.mpr
  rw [le_iff]
  constructor
  · intro h
    have n1 : ¬ f b < f a := fun q => h (.inl q)
    by_cases q : f a < f b
    · exact .inl (h2.mp q)
    · have e : f b = f a := by omega
      have l1 : ¬ a.length < b.length := fun q => n1 (h1.mpr q)
      have l2 : ¬ b.length < a.length := fun z => q (h2.mpr z)
      exact .inr ⟨by omega, fun z => h (.inr ⟨e, z⟩)⟩
  · rintro (h | ⟨h, g⟩)
    · have := h2.mpr h
      rintro (q | ⟨q, _⟩) <;> omega
    · have l1 : ¬ f b < f a := fun q => by have := h1.mp q; omega
      have l2 : ¬ f a < f b := fun q => by have := h2.mp q; omega
      rintro (q | ⟨_, q⟩)
      · exact l1 q
      · exact g q
theorem ord_kLe : dataLe false ordD = kLe := dataLe_key (f := fun k => 0 - (k.length : Int)) fun a b => by omega
theorem kLe_total : TotalLe kLe := by rw [← ord_kLe]; exact sortLe_total _ _ _
theorem kLe_anti {a b : List (List Nat)} (h1 : kLe a b = true) (h2 : kLe b a = true) : a = b := by
  have h1 := of_decide_eq_true h1
  have h2 := of_decide_eq_true h2
  rcases h1 with h1 | ⟨h1, g1⟩
  · rcases h2 with h2 | ⟨h2, _⟩ <;> omega
  · rcases h2 with h2 | ⟨_, g2⟩
    · omega
    · exact List.le_antisymm g1 g2
/-- in order, each once, and the same items: the same list -/
theorem sorted_ext : ∀ {a b : List (List (List Nat))}, a.Pairwise (fun x y => kLe x y = true) → b.Pairwise (fun x y => kLe x y = true) → a.Nodup → b.Nodup → (∀ x, x ∈ a ↔ x ∈ b) → a = b
  | [], [], _, _, _, _, _ => rfl
  | [], y :: b, _, _, _, _, h => by have := (h y).mpr List.mem_cons_self; simp at this
  | x :: a, [], _, _, _, _, h => by have := (h x).mp List.mem_cons_self; simp at this
  | x :: a, y :: b, pa, pb, na, nb, h => by
    rw [List.pairwise_cons] at pa pb
    rw [List.nodup_cons] at na nb
    have e : x = y := by
      rcases List.mem_cons.mp ((h x).mp List.mem_cons_self) with e | e
      · exact e
      · rcases List.mem_cons.mp ((h y).mpr List.mem_cons_self) with e' | e'
        · exact e'.symm
        · exact kLe_anti (pa.1 y e') (pb.1 x e)
    subst e
    congr 1
    refine sorted_ext pa.2 pb.2 na.2 nb.2 fun z => ⟨fun hz => ?_, fun hz => ?_⟩
    · rcases List.mem_cons.mp ((h z).mp (List.mem_cons_of_mem _ hz)) with e | e
      · subst e; exact absurd hz na.1
      · exact e
    · rcases List.mem_cons.mp ((h z).mpr (List.mem_cons_of_mem _ hz)) with e | e
      · subst e; exact absurd hz nb.1
      · exact e
end Lw
set_option Elab.async false
set_option linter.all false
set_option autoImplicit false
set_option maxRecDepth 100000
set_option maxHeartbeats 4000000
namespace Lw
open PySem AL PySem.W
noncomputable def sumK : List Tm → List (List Nat) → Int
  | [], _ => 0
  | t :: ts, k => (if sortN t.2 = k then t.1 else 0) + sumK ts k
theorem look_repl (k : List (List Nat)) (z : Int) (q : List (List Nat)) : ∀ D : Dm, look (D.map fun e => if e.1 = k then (e.1, z) else e) q = if q = k ∧ k ∈ D.map (·.1) then some z else look D q
  | [] => by simp [look]
  | e :: D => by
    rw [List.map_cons, look_cons, look_repl k z q D, look_cons]
    by_cases h : e.1 = k
    · rw [if_pos h]
      simp only [h]
      by_cases hq : k = q
      · subst hq; simp [h]
      · have hq' : ¬ q = k := fun z => hq z.symm
        simp [hq, hq']
    · rw [if_neg h]
      by_cases hq : e.1 = q
      · have hq' : ¬ q = k := fun z => h (hq.trans z)
        simp [hq, hq']
      · have hk : ¬ k = e.1 := fun z => h z.symm
        have hm : (k ∈ (e :: D).map (·.1)) = (k ∈ D.map (·.1)) := by
          rw [List.map_cons, List.mem_cons]
          exact propext ⟨fun z => z.resolve_left hk, .inr⟩
        simp only [hm, hq, if_false]
theorem look_app (D : Dm) (k : List (List Nat)) (z : Int) (q : List (List Nat)) : look (D ++ [(k, z)]) q = (look D q).orElse fun _ => if k = q then some z else none := by
  induction D with
  | nil => simp [look_cons, look]
  | cons e D ih =>
    rw [List.cons_append, look_cons, look_cons, ih]
    by_cases h : e.1 = q
    · simp [h]
    · simp [h]
theorem look_put (D : Dm) (k : List (List Nat)) (z : Int) (q : List (List Nat)) : look (put D k z) q = if q = k then some z else look D q := by
  unfold put
  split
  · rename_i h
    have h := any_key.mp h
    rw [look_repl]
    simp [h]
  · rename_i h
    have h : k ∉ D.map (·.1) := fun z => h (any_key.mpr z)
    rw [look_app]
    by_cases hq : q = k
    · subst hq
      rw [look_none h]
      simp
    · have hq' : ¬ k = q := fun z => hq z.symm
      simp only [hq, hq', if_false]
      cases look D q <;> rfl
theorem look_fold : ∀ (ts : List Tm) (D : Dm) (k : List (List Nat)), (look (ts.foldl addT D) k).getD 0 = (look D k).getD 0 + sumK ts k
  | [], D, k => by simp [sumK]
  | t :: ts, D, k => by
    show (look (ts.foldl addT (addT D t)) k).getD 0 = _
    rw [look_fold ts (addT D t) k]
    unfold addT
    rw [look_put]
    show _ = (look D k).getD 0 + ((if sortN t.2 = k then t.1 else 0) + sumK ts k)
    by_cases h : k = sortN t.2
    · subst h
      simp only [if_true, Option.getD_some]
      omega
    · have h' : ¬ sortN t.2 = k := fun z => h z.symm
      simp only [h, h', if_false]
      omega
theorem form_keys (ts : List Tm) : ∃ K : List (List (List Nat)), formOf ts = K.map (fun k => (sumK ts k, k)) ∧ K.Pairwise (fun x y => kLe x y = true) ∧ K.Nodup ∧ ∀ k, k ∈ K ↔ sumK ts k ≠ 0 := by
  obtain ⟨D, hD⟩ : ∃ D, D = ts.foldl addT [] := ⟨_, rfl⟩
  have hkn : KN D := by rw [hD]; exact (fold_sum (fun _ => 0) ts [] List.nodup_nil).1
  have hl : ∀ k, (look D k).getD 0 = sumK ts k := fun k => by
    rw [hD, look_fold]
    simp [look]
  have hmem : ∀ k, sumK ts k ≠ 0 → k ∈ D.map (·.1) := fun k hk => by
    apply Classical.byContradiction
    intro h
    have := hl k
    rw [look_none h] at this
    exact hk this.symm
  refine ⟨(sortF (D.map (·.1))).filter fun k => !((look D k).getD 0 == 0), ?_, ?_, ?_, fun k => ?_⟩
  · unfold formOf
    rw [← hD]
    unfold termsOf
    refine List.map_congr_left fun k _ => ?_
    rw [hl]
  · refine List.Pairwise.filter _ ?_
    unfold sortF
    rw [ord_kLe]
    exact sort_pairwise kLe_total _
  · refine List.Pairwise.filter _ ?_
    unfold sortF
    exact (List.mergeSort_perm _ _).nodup_iff.mpr hkn
  · rw [List.mem_filter, sortF_mem, hl]
    simp only [Bool.not_eq_true', beq_eq_false_iff_ne, ne_eq]
    exact ⟨fun h => h.2, fun h => ⟨hmem k h, h⟩⟩
end Lw
set_option Elab.async false
set_option linter.all false
set_option autoImplicit false
set_option maxRecDepth 100000
set_option maxHeartbeats 4000000
namespace Lw
open PySem AL PySem.W PyProof.Rows
theorem name_len {l : List Nat} (h : isName l = true) : 1 ≤ l.length ∧ l.length ≤ 8 := by
  cases l with
  | nil => cases h
  | cons c r =>
    unfold isName at h
    rw [Bool.and_eq_true, Bool.and_eq_true, decide_eq_true_eq, decide_eq_true_eq] at h
    simp only [List.length_cons]
    omega
end Lw
set_option Elab.async false
set_option linter.all false
set_option autoImplicit false
set_option maxRecDepth 100000
set_option maxHeartbeats 4000000
namespace Lw
open PySem AL PySem.W
theorem sumK_mem : ∀ {ts : List Tm} {k : List (List Nat)}, sumK ts k ≠ 0 → ∃ t ∈ ts, sortN t.2 = k
  | [], k, h => absurd rfl h
  | t :: ts, k, h => by
    by_cases q : sortN t.2 = k
    · exact ⟨t, List.mem_cons_self, q⟩
    · have e : sumK (t :: ts) k = (if sortN t.2 = k then t.1 else 0) + sumK ts k := rfl
      rw [e, if_neg q] at h
      obtain ⟨u, hu, r⟩ := sumK_mem (ts := ts) (k := k) (by omega)
      exact ⟨u, List.mem_cons_of_mem _ hu, r⟩
theorem form_mem {ts : List Tm} {t : Tm} (h : t ∈ formOf ts) : t.1 = sumK ts t.2 ∧ t.1 ≠ 0 ∧ ∃ u ∈ ts, sortN u.2 = t.2 := by
  obtain ⟨K, e, _, _, m⟩ := form_keys ts
  rw [e] at h
  obtain ⟨k, hk, rfl⟩ := List.mem_map.mp h
  have := (m k).mp hk
  exact ⟨rfl, this, sumK_mem this⟩
theorem form_lenK (ts : List Tm) : (formOf ts).length ≤ ts.length := by
  obtain ⟨K, e, _, n, m⟩ := form_keys ts
  rw [e, List.length_map]
  refine Nat.le_trans (nodup_sub_len K (ts.map fun t => sortN t.2) n fun k hk => ?_) (by rw [List.length_map]; exact Nat.le_refl _)
  obtain ⟨t, ht, r⟩ := sumK_mem ((m k).mp hk)
  exact List.mem_map.mpr ⟨t, ht, r⟩
theorem at_terms (ts : List Tm) (cs : Cells) : oAt ["Form"] "terms" (formV ts) cs = .ok (.tup (ts.map ttV)) cs := by unfold formV; simp [oAt_obj]
end Lw
set_option Elab.async false
set_option linter.all false
set_option autoImplicit false
set_option maxRecDepth 100000
set_option maxHeartbeats 4000000
namespace Lw
open PySem AL PySem.W PyProof.Rows
theorem while_once {c : FT} {b : FS} {sl sl2 : Sl} {cs cs1 cs2 cs3 : Cells} (h : c sl cs = .ok true cs1) (hb : b sl cs1 = .nx sl2 cs2) (h2 : c sl2 cs2 = .ok false cs3) : sWhile c b sl cs = .nx sl2 cs3 := by
  show whileN c b (1099511627774 + 1 + 1) sl cs = _
  rw [while_step, h]
  show (b sl cs1).turn (whileN c b (1099511627774 + 1)) = _
  rw [hb]
  show whileN c b (1099511627774 + 1) sl2 cs2 = _
  rw [while_step, h2]
  rfl
def keyN (T : List (List Nat)) : List (L2.Key × Pv) := T.map fun l => (Sum.inr (S l), Pv.bl true)
theorem keyN_val (T : List (List Nat)) (l : List Nat) : (valP (keyN T) (.inr (S l))).isSome = decide (l ∈ T) := by
  induction T with
  | nil => rfl
  | cons a T ih =>
    unfold valP keyN at ih ⊢
    rw [List.map_cons, List.find?_cons]
    by_cases e : a = l
    · simp [e]
    · have e' : ¬ (Sum.inr (S a) : L2.Key) = Sum.inr (S l) := fun h => e (S_inj (Sum.inr.inj h))
      have e2 : ¬ l = a := fun h => e h.symm
      simp only [e', decide_false, ih, List.mem_cons, e2, false_or]
theorem keyN_put {T : List (List Nat)} {l : List Nat} (h : l ∉ T) : putD (keyN T) (.inr (S l)) (.bl true) = keyN (T ++ [l]) := by
  have h1 : ((keyN T).any fun kv => decide (kv.1 = (Sum.inr (S l) : L2.Key))) = false := by
    rw [List.any_eq_false]
    intro e he
    obtain ⟨a, ha, rfl⟩ := List.mem_map.mp he
    have : ¬ (Sum.inr (S a) : L2.Key) = Sum.inr (S l) := fun q => h (S_inj (Sum.inr.inj q) ▸ ha)
    simp [this]
  unfold putD
  rw [h1]
  simp [keyN]
theorem once_loop {x0 : Option Pv} {cs : Cells} : ∀ (ns T : List (List Nat)) (x2 : Option Pv), (T ++ ns).Nodup → T.length + ns.length ≤ 1000 →
    ∃ y, forL (gTurn (gN 2) body_asked_once_1) (strL ns) [x0, some (.ref cs.length), x2] (cs ++ [.dK (keyN T)]) = .nx [x0, some (.ref cs.length), y] (cs ++ [.dK (keyN (T ++ ns))])
  | [], T, x2, _, _ => ⟨x2, by rw [List.append_nil]; rfl⟩
  | l :: ns, T, x2, hd, hl => by
    simp only [List.length_cons] at hl
    have hn : l ∉ T := fun h => (List.nodup_append.mp hd).2.2 l h l List.mem_cons_self rfl
    obtain ⟨y, e⟩ := once_loop (x0 := x0) (cs := cs) ns (T ++ [l]) (some (.str (S l))) (by rw [List.append_assoc]; exact hd) (by simp; omega)
    have hlk : lookD (cs ++ [.dK (keyN T)]) (.ref cs.length) (.str (S l)) = some (valP (keyN T) (.inr (S l))) := by
      unfold lookD
      simp [dkR, dkOf, keyP]
    have hv := keyN_val T l
    rw [decide_eq_false hn] at hv
    have hkp : keyP (.str (S l)) = some (.inr (S l)) := rfl
    have hlen : (keyN T).length < 16777216 := by unfold keyN; rw [List.length_map]; omega
    have hp := keyN_put hn
    refine ⟨y, ?_⟩
    have step : gTurn (gN 2) body_asked_once_1 (.str (S l)) [x0, some (.ref cs.length), x2] (cs ++ [.dK (keyN T)]) = .nx [x0, some (.ref cs.length), some (.str (S l))] (cs ++ [.dK (keyN (T ++ [l]))]) := by
      generalize hK : keyN T = KT at *
      generalize hK2 : keyN (T ++ [l]) = KT2 at *
      simp [body_asked_once_1, oDIn, hlk, hv, hkp, hlen, hp]
    show (gTurn (gN 2) body_asked_once_1 (.str (S l)) _ _).turn _ = _
    rw [step]
    rw [List.append_assoc] at e
    exact e
theorem once_ok {ns : List (List Nat)} (hd : ns.Nodup) (hl : ns.length ≤ 1000) (cs : Cells) : m_asked_once [.lst (strL ns)] cs = .ok .non cs := by
  obtain ⟨y, e⟩ := once_loop (x0 := some (.lst (strL ns))) (cs := cs) ns [] none hd (by simpa using hl)
  refine shut_val (ex := [.dK (keyN ns)]) ?_ (by simp)
  have e : forL (gTurn (gN 2) body_asked_once_1) (strL ns) [some (.lst (strL ns)), some (.ref cs.length), none] (cs ++ [.dK []]) = .nx [some (.lst (strL ns)), some (.ref cs.length), y] (cs ++ [.dK (keyN ns)]) := e
  generalize hM : strL ns = M at *
  simp [body_asked_once, e]
theorem names_all {ns : List (List Nat)} (h : ∀ l ∈ ns, isName l = true) (cs : Cells) : m_asked_names [.lst (strL ns)] cs = .ok .non cs := by
  have q := asked_ok (ns := ns) (fun l hl => by have := name_len (h l hl); omega) cs
  have hf : ns.find? (fun l => !isName l) = none := by
    rw [List.find?_eq_none]
    intro l hl
    simp [h l hl]
  rw [hf] at q
  exact q
theorem some_ok {ns : List (List Nat)} {what : Pv} {m : Nat} (h1 : 1 ≤ ns.length) (h2 : ns.length ≤ m) (hm : m ≤ 1000) (hd : ns.Nodup) (hn : ∀ l ∈ ns, isName l = true) (cs : Cells) : m_asked_some [what, .lst (strL ns), .int (m : Int)] cs = .ok .non cs := by
  have e1 := names_all hn cs
  have e2 := once_ok hd (by omega) cs
  have hl : (strL ns).length = ns.length := List.length_map ..
  have g1 : (1 : Int) ≤ (ns.length : Int) := by omega
  have g2 : (ns.length : Int) ≤ (m : Int) := by omega
  generalize hM : strL ns = M at *
  simp [m_asked_some, body_asked_some, hl, g1, g2, e1, e2]
def bodyE : Pv := .obj "Body" [("row", .tup [])]
theorem body_made (cs : Cells) : mk_Body [.lst []] cs = .ok bodyE cs := by
  refine shut_obj (k := cs.length) (ex := [.ins "Body" [("row", .tup [])]]) ?_ (Nat.le_refl _) (get_end _) (by simp)
  have hct : (["Body"] : List Str).contains "Body" = true := by decide
  simp [m_Body___init__, body_Body___init__, putP]
theorem row_of_bodyE (cs : Cells) : oAt ["Body"] "row" bodyE cs = .ok (.tup []) cs := by unfold bodyE; simp [oAt_obj]
theorem measured_ok (cs : Cells) : m_measured [bodyE] cs = .ok (.tup [.int 0, .int 1]) cs := by
  refine shut_val (ex := [.lst []]) ?_ (by simp)
  have f1 : fits 1 = true := rfl
  have f2' : fits 2 = true := rfl
  have f0 : fits 0 = true := rfl
  have hr := row_of_bodyE
  generalize hB : bodyE = B at *
  have hw : sWhile (fTst (f2 (oNil true) (fVar 3) (fLst fNil))) body_measured_2 [some B, some (.int 0), some (.int 1), some (.ref cs.length), none, none, none, none] (cs ++ [.lst [.tup [B, .int 1]]]) = .nx [some B, some (.int 0), some (.int 1), some (.ref cs.length), some B, some (.int 1), none, none] (cs ++ [.lst []]) := by
    refine while_once (cs1 := cs ++ [.lst [.tup [B, .int 1]]]) (cs2 := cs ++ [.lst []]) ?_ ?_ ?_
    · simp [oNil, asL, f0]
    · have hty : tyIs "list" (.ref cs.length) (cs ++ [Co.lst [.tup [B, .int 1]]]) = true := v_tyList (get_end _)
      simp [body_measured_2, hty, mPop0, hr, forL]
    · simp [oNil, asL, f0]
  simp [body_measured, f1, f2', hw]
theorem sizes_ok (cs : Cells) : m_asked_sizes [.lst [bodyE]] cs = .ok .non cs := by
  have hm := measured_ok
  have c1 : fLc (iAny (fVar 0)) (gN 5) fYes (fCall m_measured (fCons (fVar 5) fNil)) [5] [some (.lst [bodyE]), none, none, none, none, none] cs = .ok (.lst [.tup [.int 0, .int 1]]) cs :=
    fLc_map (L := [()]) (f := fun _ => bodyE) (h := fun _ => .tup [.int 0, .int 1]) (by simp) (by simp) fun _ _ => by
      generalize hB : bodyE = B at *
      simp [hm]
  have c2 : ∀ x0, fLc (iAny (fVar 1)) (gT 2 (gsCons (gN 3) (gsCons (gN 4) gsNil))) fYes (fVar 3) [3, 4] [x0, some (.lst [.tup [.int 0, .int 1]]), none, none, none, none] cs = .ok (.lst [.int 0]) cs := fun x0 =>
    fLc_map (L := [()]) (f := fun _ => .tup [.int 0, .int 1]) (h := fun _ => .int 0) (by simp) (by simp) fun _ _ => by simp
  have hs : mSum [.lst [.int 0]] cs = .ok (.int 0) cs := v_sum [0]
  simp [m_asked_sizes, body_asked_sizes, c1, c2, hs, forL, body_asked_sizes_1]
def mainL : List Nat := [109, 97, 105, 110]
def progV (ns : List (List Nat)) : Pv := .obj "Program" [("number_names", .tup (strL ns)), ("bodies", .tup [.tup [.str (S mainL), bodyE]])]
theorem within_ok (cs : Cells) : m_all_within 12 [bodyE] cs = .ok (.lst []) cs := by
  refine shut_val (ex := [.dead]) ?_ (by simp)
  have f0 : fits 0 = true := rfl
  have hr := row_of_bodyE
  generalize hB : bodyE = B at *
  simp [body_all_within, f0, hr, forL]
theorem nr_bodyE : nr bodyE = true := by simp [bodyE]
theorem statements_ok {ns : List (List Nat)} {cs : Cells} {k : Nat} (hk : cs[k]? = some (.ins "Program" [("number_names", .tup (strL ns)), ("bodies", .tup [.tup [.str (S mainL), bodyE]])])) : m_Program_statements [.ref k] cs = .ok (.lst []) cs := by
  refine shut_val (ex := [.dead]) ?_ (by simp)
  have f0 : fits 0 = true := rfl
  have hat : oAt ["Program"] "bodies" (.ref k) (cs ++ [.lst []]) = .ok (.tup [.tup [.str (S mainL), bodyE]]) (cs ++ [.lst []]) := by
    have hk2 : (cs ++ [Co.lst []])[k]? = some (.ins "Program" [("number_names", .tup (strL ns)), ("bodies", .tup [.tup [.str (S mainL), bodyE]])]) := by
      rw [List.getElem?_append_left (List.getElem?_eq_some_iff.mp hk).1]; exact hk
    simp only [oAt, objOf, hk2]
    rfl
  have hw := within_ok
  have hty : tyIs "list" (.ref cs.length) (cs ++ [Co.lst []]) = true := v_tyList (get_end _)
  generalize hB : bodyE = B at *
  simp [body_Program_statements, f0, hat, forL, body_Program_statements_1, hty, hw, mExtend, seqOf, asL]
theorem prog_ok {ns : List (List Nat)} (h1 : 1 ≤ ns.length) (h2 : ns.length ≤ 3) (hd : ns.Nodup) (hn : ∀ l ∈ ns, isName l = true) (cs : Cells) :
    mk_Program [.lst (strL ns), .lst [.tup [.str (S mainL), bodyE]]] cs = .ok (progV ns) cs := by
  refine shut_obj (k := cs.length) (ex := [.ins "Program" [("number_names", .tup (strL ns)), ("bodies", .tup [.tup [.str (S mainL), bodyE]])]]) ?_ (Nat.le_refl _) (get_end _) ?_
  · have a1 := some_ok (what := .str (S [110, 97, 109, 101, 115])) (m := 3) h1 h2 (by decide) hd hn
    have a2 := some_ok (ns := [mainL]) (what := .str (S [112, 97, 114, 116, 115])) (m := 4) (by decide) (by decide) (by decide) (by decide) (by decide)
    have a3 := sizes_ok
    have c5 : ∀ (x0 x1 x3 x4 : Option Pv) (cs : Cells), fLc (iAny (fVar 2)) (gT 2 (gsCons (gN 5) (gsCons (gN 6) gsNil))) fYes (fVar 5) [5, 6] [x0, x1, some (.lst [.tup [.str (S mainL), bodyE]]), x3, x4, none, none] cs = .ok (.lst [.str (S mainL)]) cs := fun x0 x1 x3 x4 cs =>
      fLc_map (L := [()]) (f := fun _ => .tup [.str (S mainL), bodyE]) (h := fun _ => .str (S mainL)) (by simp) (by simp) fun _ _ => by
        generalize hB : bodyE = B at *
        simp
    have c6 : ∀ (x0 x1 x3 x4 : Option Pv) (cs : Cells), fLc (iAny (fVar 2)) (gT 2 (gsCons (gN 5) (gsCons (gN 6) gsNil))) fYes (fVar 6) [5, 6] [x0, x1, some (.lst [.tup [.str (S mainL), bodyE]]), x3, x4, none, none] cs = .ok (.lst [bodyE]) cs := fun x0 x1 x3 x4 cs =>
      fLc_map (L := [()]) (f := fun _ => .tup [.str (S mainL), bodyE]) (h := fun _ => bodyE) (by simp) (by simp) fun _ _ => by
        generalize hB : bodyE = B at *
        simp
    have f2' : fits 2 = true := rfl
    have c7 : ∀ (x0 x1 x3 x4 : Option Pv) (cs : Cells), fLc (iAny (fVar 2)) (gT 2 (gsCons (gN 5) (gsCons (gN 6) gsNil))) fYes (fTup (fCons (fVar 5) (fCons (fVar 6) fNil))) [5, 6] [x0, x1, some (.lst [.tup [.str (S mainL), bodyE]]), x3, x4, none, none] cs = .ok (.lst [.tup [.str (S mainL), bodyE]]) cs := fun x0 x1 x3 x4 cs =>
      fLc_map (L := [()]) (f := fun _ => .tup [.str (S mainL), bodyE]) (h := fun _ => .tup [.str (S mainL), bodyE]) (by simp) (by simp) fun _ _ => by
        generalize hB : bodyE = B at *
        simp [f2']
    have a1 : ∀ cs, m_asked_some [.str (S [110, 97, 109, 101, 115]), .lst (strL ns), .int 3] cs = .ok .non cs := a1
    have a2 : ∀ cs, m_asked_some [.str (S [112, 97, 114, 116, 115]), .lst [.str (S mainL)], .int 4] cs = .ok .non cs := a2
    have st := statements_ok (ns := ns) (cs := cs ++ [.ins "Program" [("number_names", .tup (strL ns)), ("bodies", .tup [.tup [.str (S mainL), bodyE]])]]) (k := cs.length) (get_end _)
    have hct : (["Program"] : List Str).contains "Program" = true := by decide
    have ho : oMth "statements" [("Program", m_Program_statements)] (.ref cs.length) (cs ++ [.ins "Program" [("number_names", .tup (strL ns)), ("bodies", .tup [.tup [.str (S mainL), bodyE]])]]) = some m_Program_statements := by
      simp only [oMth, objOf, get_end]
      rfl
    have nb : ¬ (("number_names" : Str) = ("bodies" : Str)) := by decide
    generalize hM : strL ns = M at *
    generalize hB : bodyE = B at *
    generalize hL : S mainL = Lm at *
    simp [m_Program___init__, body_Program___init__, a1, a2, a3, c5, c6, c7, putP, nb, ho, st, forL]
  · have := nrs_strL ns
    simp [this, nr_bodyE]
end Lw
set_option Elab.async false
set_option linter.all false
set_option autoImplicit false
set_option maxRecDepth 100000
set_option maxHeartbeats 4000000
namespace Lw
open PySem AL PySem.W PyProof.Rows
def prodL {α : Type} : List α → List (α × α)
  | [] => []
  | x :: xs => (x :: xs).map (fun y => (x, y)) ++ prodL xs
theorem prodL_map {α β : Type} (f : α → β) : ∀ xs : List α, prodL (xs.map f) = (prodL xs).map fun p => (f p.1, f p.2)
  | [] => rfl
  | x :: xs => by
    rw [List.map_cons, prodL, prodL, prodL_map f xs, List.map_append]
    congr 1
    rw [← List.map_cons, List.map_map, List.map_map]
    rfl
theorem prodL_len {α : Type} : ∀ xs : List α, (prodL xs).length ≤ xs.length * xs.length
  | [] => Nat.le_refl _
  | x :: xs => by
    rw [prodL, List.length_append, List.length_map, List.length_cons]
    have := prodL_len xs
    have e : (xs.length + 1) * (xs.length + 1) = xs.length * xs.length + xs.length + (xs.length + 1) := by
      rw [Nat.add_mul, Nat.mul_add]; omega
    omega
theorem prodL_mem {α : Type} {a b : α} : ∀ {xs : List α}, (a, b) ∈ prodL xs → a ∈ xs ∧ b ∈ xs
  | [], h => by simp [prodL] at h
  | x :: xs, h => by
    rw [prodL, List.mem_append] at h
    rcases h with h | h
    · obtain ⟨y, hy, e⟩ := List.mem_map.mp h
      cases e
      exact ⟨List.mem_cons_self, hy⟩
    · have := prodL_mem h
      exact ⟨List.mem_cons_of_mem _ this.1, List.mem_cons_of_mem _ this.2⟩
def pairV (p : Pv × Pv) : Pv := .tup [p.1, p.2]
theorem enum_cons (n : Nat) (x : Pv) (xs : List Pv) : enumL n (x :: xs) = .tup [.int ((n : Nat) : Int), x] :: enumL (n + 1) xs := by
  unfold enumL
  rw [List.mapIdx_cons]
  have e : (fun (i : Nat) (y : Pv) => Pv.tup [.int ((n + (i + 1) : Nat) : Int), y]) = fun i y => Pv.tup [.int ((n + 1 + i : Nat) : Int), y] := by
    funext i y
    rw [show n + (i + 1) = n + 1 + i by omega]
  rw [e]
  rfl
theorem products_loop {cs : Cells} {all : List Pv} (ha : all.length ≤ 1000) : ∀ (suf : List Pv) (pre : List Pv) (F : List Pv) (x2 x3 x4 : Option Pv), all = pre ++ suf → F.length + suf.length * suf.length ≤ 1000000 →
    ∃ y2 y3, forL (gTurn (gT 2 (gsCons (gN 2) (gsCons (gN 3) gsNil))) body_products_1) (enumL pre.length suf) [some (.lst all), some (.ref cs.length), x2, x3, x4] (cs ++ [.lst F]) = .nx [some (.lst all), some (.ref cs.length), y2, y3, x4] (cs ++ [.lst (F ++ (prodL suf).map pairV)])
  | [], pre, F, x2, x3, x4, _, _ => ⟨x2, x3, by rw [prodL, List.map_nil, List.append_nil]; rfl⟩
  | x :: suf, pre, F, x2, x3, x4, hx, hF => by
    simp only [List.length_cons] at hF
    have hq : (suf.length + 1) * (suf.length + 1) = suf.length * suf.length + suf.length + (suf.length + 1) := by
      rw [Nat.add_mul, Nat.mul_add]; omega
    obtain ⟨y2, y3, e⟩ := products_loop (cs := cs) ha suf (pre ++ [x]) (F ++ ((x :: suf).map fun y => (x, y)).map pairV) (some (.int (pre.length : Int))) (some x) x4 (by rw [hx]; simp) (by
      rw [List.length_append, List.length_map, List.length_map, List.length_cons]; omega)
    refine ⟨y2, y3, ?_⟩
    have hcut : cut all (some ((pre.length : Nat) : Int)) none = x :: suf := by rw [cut_from, hx]; simp
    have hlc : fLc (iAny (fSlc (fVar 0) (fPart (fVar 2)) fNoPart)) (gN 4) fYes (fTup (fCons (fVar 3) (fCons (fVar 4) fNil))) [4] [some (.lst all), some (.ref cs.length), some (.int (pre.length : Int)), some x, x4] (cs ++ [.lst F]) = .ok (.lst ((x :: suf).map fun y => pairV (x, y))) (cs ++ [.lst F]) := by
      have f2' : fits 2 = true := rfl
      refine fLc_map (L := x :: suf) (f := id) (h := fun y => pairV (x, y)) ?_ ?_ fun y _ => ?_
      · simp [hcut]
      · have : (x :: suf).length ≤ 1000 := by rw [hx, List.length_append] at ha; omega
        omega
      · simp [f2', pairV]
    have hsz : fits (F.length + (suf.length + 1)) = true := fits_ok (by omega)
    have hty : tyIs "list" (.ref cs.length) (cs ++ [Co.lst F]) = true := v_tyList (get_end _)
    have step : gTurn (gT 2 (gsCons (gN 2) (gsCons (gN 3) gsNil))) body_products_1 (.tup [.int ((pre.length : Nat) : Int), x]) [some (.lst all), some (.ref cs.length), x2, x3, x4] (cs ++ [.lst F]) = .nx [some (.lst all), some (.ref cs.length), some (.int (pre.length : Int)), some x, x4] (cs ++ [.lst (F ++ ((x :: suf).map fun y => (x, y)).map pairV)]) := by
      rw [List.map_map]
      have hlc : fLc (iAny (fSlc (fVar 0) (fPart (fVar 2)) fNoPart)) (gN 4) fYes (fTup (fCons (fVar 3) (fCons (fVar 4) fNil))) [4] [some (.lst all), some (.ref cs.length), some (.int (pre.length : Int)), some x, x4] (cs ++ [.lst F]) = .ok (.lst ((x :: suf).map (pairV ∘ fun y => (x, y)))) (cs ++ [.lst F]) := hlc
      have hl2 : ((x :: suf).map (pairV ∘ fun y => (x, y))).length = suf.length + 1 := by simp
      generalize hY : (x :: suf).map (pairV ∘ fun y => (x, y)) = Y at *
      simp [body_products_1, hty, hlc, mExtend, seqOf, hl2, hsz]
    rw [enum_cons]
    show (gTurn _ body_products_1 _ _ _).turn _ = _
    rw [step]
    have hpl : (pre ++ [x]).length = pre.length + 1 := by simp
    rw [hpl, List.append_assoc, ← List.map_append] at e
    exact e
theorem nrs_all : ∀ {xs : List Pv}, nrs xs = true ↔ ∀ x ∈ xs, nr x = true
  | [] => by simp
  | x :: xs => by simp [nrs_all (xs := xs)]
theorem products_ok {xs : List Pv} (h : xs.length ≤ 1000) (hn : nrs xs = true) (cs : Cells) : m_products [.lst xs] cs = .ok (.lst ((prodL xs).map pairV)) cs := by
  have hsq : xs.length * xs.length ≤ 1000 * 1000 := Nat.mul_le_mul h h
  obtain ⟨y2, y3, e⟩ := products_loop (cs := cs) h xs [] [] none none none rfl (by simp; omega)
  refine shut_val (ex := [.dead]) ?_ ?_
  · have f0 : fits 0 = true := rfl
    have e : forL (gTurn (gT 2 (gsCons (gN 2) (gsCons (gN 3) gsNil))) body_products_1) (enumL 0 xs) [some (.lst xs), some (.ref cs.length), none, none, none] (cs ++ [.lst []]) = .nx [some (.lst xs), some (.ref cs.length), y2, y3, none] (cs ++ [.lst ((prodL xs).map pairV)]) := e
    generalize hP : (prodL xs).map pairV = P at *
    simp [body_products, f0, asL, e]
  · rw [nr_lst, nrs_all]
    intro p hp
    obtain ⟨q, hq, rfl⟩ := List.mem_map.mp hp
    have := prodL_mem (a := q.1) (b := q.2) hq
    rw [nrs_all] at hn
    simp [pairV, hn _ this.1, hn _ this.2]
/-- what stands at the places of a row -/
def colsOf (ns : List (List Nat)) (d : Nat) : List (List (List Nat)) := [] :: ns.map (fun l => [l]) ++ if d = 2 then (prodL ns).map fun p => [p.1, p.2] else []
theorem cols_len {ns : List (List Nat)} {d : Nat} (h : ns.length ≤ 10) : (colsOf ns d).length ≤ 200 := by
  have := prodL_len ns
  have h2 : ns.length * ns.length ≤ 10 * 10 := Nat.mul_le_mul h h
  unfold colsOf
  split <;> simp <;> omega
theorem columns_ok {ns : List (List Nat)} {d : Nat} (h : ns.length ≤ 10) (cs : Cells) : m_columns [.lst (strL ns), .int (d : Int)] cs = .ok (.lst ((colsOf ns d).map tupV)) cs := by
  have f0 : fits 0 = true := rfl
  have f1 : fits 1 = true := rfl
  have c1 : ∀ x1 x2, fLc (iAny (fVar 0)) (gN 3) fYes (fTup (fCons (fVar 3) fNil)) [3] [some (.lst (strL ns)), x1, x2, none] cs = .ok (.lst (ns.map fun l => tupV [l])) cs := fun x1 x2 =>
    fLc_map (L := ns) (f := fun l => Pv.str (S l)) (h := fun l => tupV [l]) (by simp) (by omega) fun l _ => by simp [f1, tupV]
  have hl : (strL ns).length = ns.length := List.length_map ..
  have hp := products_ok (xs := strL ns) (by omega) (nrs_strL ns) cs
  rw [prodL_map, List.map_map] at hp
  have hp : m_products [.lst (strL ns)] cs = .ok (.lst ((prodL ns).map fun p => tupV [p.1, p.2])) cs := hp
  have hl1 : (ns.map fun l => tupV [l]).length = ns.length := List.length_map ..
  have hl2 : ((prodL ns).map fun p => tupV [p.1, p.2]).length = (prodL ns).length := List.length_map ..
  have := prodL_len ns
  have h2 : ns.length * ns.length ≤ 10 * 10 := Nat.mul_le_mul h h
  have fa : fits (1 + ns.length) = true := fits_ok (by omega)
  have fb : fits (ns.length + 1 + (prodL ns).length) = true := fits_ok (by omega)
  have t0 : tupV [] = .tup [] := rfl
  have goal : (colsOf ns d).map tupV = (.tup [] :: ns.map fun l => tupV [l]) ++ if d = 2 then (prodL ns).map fun p => tupV [p.1, p.2] else [] := by
    unfold colsOf
    split <;> (rw [List.map_append, List.map_cons]; simp only [List.map_map, List.map_nil]; rfl)
  rw [goal]
  generalize hM : strL ns = M at *
  generalize hA : (ns.map fun l => tupV [l]) = A at *
  generalize hB : ((prodL ns).map fun p => tupV [p.1, p.2]) = B at *
  by_cases hd : d = 2
  · subst hd
    simp [m_columns, body_columns, f0, f1, c1, hl1, fa, hp, hl2, fb]
  · have hd' : ¬ (d : Int) = 2 := by omega
    simp [m_columns, body_columns, f0, f1, c1, hl1, fa, hd, hd']
end Lw
set_option Elab.async false
set_option linter.all false
set_option autoImplicit false
set_option maxRecDepth 100000
set_option maxHeartbeats 4000000
namespace Lw
open PySem AL PySem.W PyProof.Rows
theorem cols_mem {ns : List (List Nat)} {d : Nat} (hd : d = 1 ∨ d = 2) {c : List (List Nat)} (h : c ∈ colsOf ns d) : c.length ≤ d ∧ ∀ l ∈ c, l ∈ ns := by
  unfold colsOf at h
  rcases List.mem_append.mp h with h | h
  · rcases List.mem_cons.mp h with rfl | h
    · exact ⟨Nat.zero_le _, fun l hl => by simp at hl⟩
    · obtain ⟨l, hl, rfl⟩ := List.mem_map.mp h
      refine ⟨by simp only [List.length_cons, List.length_nil]; rcases hd with rfl | rfl <;> omega, fun u hu => ?_⟩
      have : u = l := by simpa using hu
      rw [this]; exact hl
  · split at h
    · rename_i h2
      obtain ⟨p, hp, rfl⟩ := List.mem_map.mp h
      have := prodL_mem (a := p.1) (b := p.2) hp
      refine ⟨by rw [h2]; simp, fun u hu => ?_⟩
      simp only [List.mem_cons, List.not_mem_nil, or_false] at hu
      rcases hu with rfl | rfl
      · exact this.1
      · exact this.2
    · simp at h
end Lw
set_option Elab.async false
set_option linter.all false
set_option autoImplicit false
set_option maxRecDepth 100000
set_option maxHeartbeats 4000000
namespace Lw
open PySem AL PySem.W PyProof.Rows
theorem nrs_ints (L : List Int) : nrs (L.map Pv.int) = true := nrs_map fun _ _ => rfl
theorem degree_asked {ns : List (List Nat)} {d : Nat} (cs : Cells) : m_asked_degree [.lst (strL ns), .int (d : Int)] cs = if d = 2 ∧ 2 < ns.length then .exn "BadCount" [("count", .int (ns.length : Int)), ("what", .str (S [110, 97, 109, 101, 115]))] cs else .ok .non cs := by
  have hl : (strL ns).length = ns.length := List.length_map ..
  generalize strL ns = M at *
  by_cases hd : d = 2
  · subst hd
    by_cases h : 2 < ns.length
    · have h' : (2 : Int) < (ns.length : Int) := by omega
      simp [m_asked_degree, body_asked_degree, hl, h, h']
    · have h' : ¬ (2 : Int) < (ns.length : Int) := by omega
      simp [m_asked_degree, body_asked_degree, hl, h, h']
  · have hd' : ¬ (d : Int) = 2 := by omega
    simp [m_asked_degree, body_asked_degree, hd, hd']
theorem at_names (ns : List (List Nat)) (cs : Cells) : oAt ["Program"] "number_names" (progV ns) cs = .ok (.tup (strL ns)) cs := by
  unfold progV
  simp [oAt_obj]
theorem prog_names (ns : List (List Nat)) (cs : Cells) : m_Program_names [progV ns] cs = .ok (.lst (strL ns)) cs := by
  have h := at_names ns
  generalize progV ns = P at *
  generalize strL ns = M at *
  simp [m_Program_names, body_Program_names, h]
theorem mth_names (ns : List (List Nat)) (cs : Cells) : oMth "names" [("Program", m_Program_names)] (progV ns) cs = some m_Program_names := by
  rfl
theorem mth_degree (ts : List Tm) (cs : Cells) : oMth "degree" [("Form", m_Form_degree)] (formV ts) cs = some m_Form_degree := by
  rfl
def strange (ns : List (List Nat)) (f : List Tm) : Option (List Nat) := (f.flatMap (·.2)).find? fun l => !decide (l ∈ ns)
theorem strange_in {ns : List (List Nat)} {x0 x1 x2 x3 : Option Pv} {cs : Cells} (h0 : x0 = some (progV ns)) : ∀ (k : List (List Nat)) (x4 : Option Pv), match k.find? (fun l => !decide (l ∈ ns)) with
    | some l => ∃ y4, forL (gTurn (gN 4) body_asked_names_of_1) (strL k) [x0, x1, x2, x3, x4] cs = .exn "NoNumber" [("name", .str (S l))] [x0, x1, x2, x3, y4] cs
    | none => ∃ y4, forL (gTurn (gN 4) body_asked_names_of_1) (strL k) [x0, x1, x2, x3, x4] cs = .nx [x0, x1, x2, x3, y4] cs
  | [], x4 => ⟨x4, rfl⟩
  | l :: k, x4 => by
    have hm := mth_names ns
    have hp := prog_names ns
    have hi := v_inL (neg := true) (cs := cs) (tk := .lst (strL ns)) (T := ns) rfl l
    by_cases h : l ∈ ns
    · have hd : (!decide (l ∈ ns)) = false := by simp [h]
      simp only [List.find?_cons, hd]
      have ih := strange_in (x1 := x1) (x2 := x2) (x3 := x3) (cs := cs) h0 k (some (.str (S l)))
      have step : gTurn (gN 4) body_asked_names_of_1 (.str (S l)) [x0, x1, x2, x3, x4] cs = .nx [x0, x1, x2, x3, some (.str (S l))] cs := by
        subst h0
        simp only [if_true, hd] at hi
        generalize progV ns = P at *
        generalize strL ns = M at *
        simp [body_asked_names_of_1, hm, hp, hi]
      have e : forL (gTurn (gN 4) body_asked_names_of_1) (strL (l :: k)) [x0, x1, x2, x3, x4] cs = forL (gTurn (gN 4) body_asked_names_of_1) (strL k) [x0, x1, x2, x3, some (.str (S l))] cs := by
        show (gTurn (gN 4) body_asked_names_of_1 (.str (S l)) _ cs).turn _ = _
        rw [step]; rfl
      rw [e]
      exact ih
    · have hd : (!decide (l ∈ ns)) = true := by simp [h]
      simp only [List.find?_cons, hd]
      refine ⟨some (.str (S l)), ?_⟩
      subst h0
      simp only [if_true, hd] at hi
      generalize progV ns = P at *
      generalize strL ns = M at *
      simp [forL, body_asked_names_of_1, hm, hp, hi, RS.turn]
theorem strange_out {ns : List (List Nat)} {x0 x1 : Option Pv} {cs : Cells} (h0 : x0 = some (progV ns)) : ∀ (f : List Tm) (x2 x3 x4 : Option Pv), match strange ns f with
    | some l => ∃ y2 y3 y4, forL (gTurn (gT 2 (gsCons (gN 2) (gsCons (gN 3) gsNil))) body_asked_names_of_2) (f.map ttV) [x0, x1, x2, x3, x4] cs = .exn "NoNumber" [("name", .str (S l))] [x0, x1, y2, y3, y4] cs
    | none => ∃ y2 y3 y4, forL (gTurn (gT 2 (gsCons (gN 2) (gsCons (gN 3) gsNil))) body_asked_names_of_2) (f.map ttV) [x0, x1, x2, x3, x4] cs = .nx [x0, x1, y2, y3, y4] cs
  | [], x2, x3, x4 => ⟨x2, x3, x4, rfl⟩
  | t :: f, x2, x3, x4 => by
    have hin := strange_in (x1 := x1) (x2 := some (.int t.1)) (x3 := some (.tup (strL t.2))) (cs := cs) h0 t.2 x4
    unfold strange
    rw [List.flatMap_cons, List.find?_append]
    cases hf : t.2.find? (fun l => !decide (l ∈ ns)) with
    | some l =>
      rw [hf] at hin
      obtain ⟨y4, e⟩ := hin
      simp only [Option.some_or]
      refine ⟨some (.int t.1), some (.tup (strL t.2)), y4, ?_⟩
      have step : gTurn (gT 2 (gsCons (gN 2) (gsCons (gN 3) gsNil))) body_asked_names_of_2 (ttV t) [x0, x1, x2, x3, x4] cs = .exn "NoNumber" [("name", .str (S l))] [x0, x1, some (.int t.1), some (.tup (strL t.2)), y4] cs := by
        unfold ttV
        generalize strL t.2 = M at *
        simp [body_asked_names_of_2, e]
      show (gTurn _ body_asked_names_of_2 (ttV t) _ cs).turn _ = _
      rw [step]; rfl
    | none =>
      rw [hf] at hin
      obtain ⟨y4, e⟩ := hin
      simp only [Option.none_or]
      have ih := strange_out (x1 := x1) (cs := cs) h0 f (some (.int t.1)) (some (.tup (strL t.2))) y4
      have step : gTurn (gT 2 (gsCons (gN 2) (gsCons (gN 3) gsNil))) body_asked_names_of_2 (ttV t) [x0, x1, x2, x3, x4] cs = .nx [x0, x1, some (.int t.1), some (.tup (strL t.2)), y4] cs := by
        unfold ttV
        generalize strL t.2 = M at *
        simp [body_asked_names_of_2, e]
      have e2 : forL (gTurn (gT 2 (gsCons (gN 2) (gsCons (gN 3) gsNil))) body_asked_names_of_2) ((t :: f).map ttV) [x0, x1, x2, x3, x4] cs = forL (gTurn (gT 2 (gsCons (gN 2) (gsCons (gN 3) gsNil))) body_asked_names_of_2) (f.map ttV) [x0, x1, some (.int t.1), some (.tup (strL t.2)), y4] cs := by
        show (gTurn _ body_asked_names_of_2 (ttV t) _ cs).turn _ = _
        rw [step]; rfl
      rw [e2]
      exact ih
theorem names_asked (ns : List (List Nat)) (f : List Tm) (cs : Cells) : m_asked_names_of [progV ns, formV f] cs = match strange ns f with
    | some l => .exn "NoNumber" [("name", .str (S l))] cs
    | none => .ok .non cs := by
  have h := strange_out (ns := ns) (x0 := some (progV ns)) (x1 := some (formV f)) (cs := cs) rfl f none none none
  have ha := at_terms f
  split
  · rename_i l hl
    rw [hl] at h
    obtain ⟨y2, y3, y4, e⟩ := h
    generalize progV ns = P at *
    generalize formV f = F at *
    generalize f.map ttV = T at *
    simp [m_asked_names_of, body_asked_names_of, ha, e]
  · rename_i hl
    rw [hl] at h
    obtain ⟨y2, y3, y4, e⟩ := h
    generalize progV ns = P at *
    generalize formV f = F at *
    generalize f.map ttV = T at *
    simp [m_asked_names_of, body_asked_names_of, ha, e]
def degOf : List Tm → Nat
  | [] => 0
  | t :: _ => t.2.length
theorem degree_ok (f : List Tm) (cs : Cells) : m_Form_degree [formV f] cs = .ok (.int (degOf f : Int)) cs := by
  have ha := at_terms f
  cases f with
  | nil =>
    generalize formV [] = F at *
    simp [m_Form_degree, body_Form_degree, ha, degOf]
  | cons t f =>
    have hl : (strL t.2).length = t.2.length := List.length_map ..
    have i0 : L2.atI ((t :: f).map ttV) 0 = some (ttV t) := by simp [L2.atI, L2.ixN]
    have i1 : L2.atI [Pv.int t.1, .tup (strL t.2)] 1 = some (.tup (strL t.2)) := rfl
    have hln : ((t :: f).map ttV).length = f.length + 1 := by simp
    have hne : ¬ (f.length : Int) + 1 = 0 := by omega
    have et : ttV t = .tup [.int t.1, .tup (strL t.2)] := rfl
    rw [et] at i0
    generalize formV (t :: f) = F at *
    generalize (t :: f).map ttV = T at *
    generalize strL t.2 = M at *
    simp [m_Form_degree, body_Form_degree, ha, hln, hne, i0, i1, hl, degOf]
noncomputable def dictOf (f : List Tm) (D : Dm) : Dm := f.foldl (fun D t => put D t.2 t.1) D
theorem dict_loop {x0 x1 x2 : Option Pv} {cs : Cells} : ∀ (f : List Tm) (D : Dm) (x4 x5 : Option Pv), D.length + f.length < 1000000 →
    ∃ y4 y5, forL (gTurn (gT 2 (gsCons (gN 4) (gsCons (gN 5) gsNil))) body_row_of_1) (f.map ttV) [x0, x1, x2, some (.ref cs.length), x4, x5] (cs ++ [.dT (encD D)]) = .nx [x0, x1, x2, some (.ref cs.length), y4, y5] (cs ++ [.dT (encD (dictOf f D))])
  | [], D, x4, x5, _ => ⟨x4, x5, rfl⟩
  | t :: f, D, x4, x5, hl => by
    simp only [List.length_cons] at hl
    obtain ⟨y4, y5, e⟩ := dict_loop (x0 := x0) (x1 := x1) (x2 := x2) (cs := cs) f (put D t.2 t.1) (some (.int t.1)) (some (.tup (strL t.2))) (by have := put_len D t.2 t.1; omega)
    refine ⟨y4, y5, ?_⟩
    have hkp := keysP_strL t.2
    have hpe := put_enc D t.2 t.1
    have hD : (encD D).length < 16777216 := by rw [encD_len]; omega
    have step : gTurn (gT 2 (gsCons (gN 4) (gsCons (gN 5) gsNil))) body_row_of_1 (ttV t) [x0, x1, x2, some (.ref cs.length), x4, x5] (cs ++ [.dT (encD D)]) = .nx [x0, x1, x2, some (.ref cs.length), some (.int t.1), some (.tup (strL t.2))] (cs ++ [.dT (encD (put D t.2 t.1))]) := by
      unfold ttV
      generalize strL t.2 = M at *
      simp [body_row_of_1, hkp, hD, hpe]
    show (gTurn _ body_row_of_1 (ttV t) _ _).turn _ = _
    rw [step]
    exact e
theorem dict_look {f : List Tm} {g : List (List Nat) → Int} : ∀ {K : List (List (List Nat))} (D : Dm) (k : List (List Nat)), look (dictOf (K.map fun x => (g x, x)) D) k = if k ∈ K then some (g k) else look D k := by
  intro K
  induction K with
  | nil => intro D k; simp [dictOf]
  | cons x K ih =>
    intro D k
    show look (dictOf (K.map fun x => (g x, x)) (put D x (g x))) k = _
    rw [ih, look_put]
    by_cases h1 : k ∈ K
    · simp [h1]
    · by_cases h2 : k = x
      · subst h2; simp
      · simp [h1, h2]
theorem dict_form (ts : List Tm) (k : List (List Nat)) : (look (dictOf (formOf ts) []) k).getD 0 = sumK ts k := by
  obtain ⟨K, e, _, _, m⟩ := form_keys ts
  rw [e, dict_look (f := ts)]
  by_cases h : k ∈ K
  · simp [h]
  · rw [if_neg h]
    have : sumK ts k = 0 := Classical.byContradiction fun q => h ((m k).mpr q)
    rw [this]; rfl
theorem sorted_namesT {k : List (List Nat)} (h : k.length ≤ 1000000) (cs : Cells) : mSortT [tupV k] cs = .ok (.lst (strL (sortN k))) cs :=
  mSortT_map (f := fun l => .str (S l)) (d := strD) (.inr rfl) (fun l _ => rfl) (by rw [strD_map]; exact sortOk_str _) (by omega) cs
theorem row_ok {ns : List (List Nat)} {ts : List Tm} {d : Nat} (hd : d = 1 ∨ d = 2) (h : ns.length ≤ 10) (ht : ts.length ≤ 1000) (cs : Cells) : m_row_of [progV ns, formV (formOf ts), .int (d : Int)] cs =
    if d = 2 ∧ 2 < ns.length then .exn "BadCount" [("count", .int (ns.length : Int)), ("what", .str (S [110, 97, 109, 101, 115]))] cs
    else match strange ns (formOf ts) with
      | some l => .exn "NoNumber" [("name", .str (S l))] cs
      | none => if d < degOf (formOf ts) then .exn "BadCount" [("count", .int (degOf (formOf ts) : Int)), ("what", .str (S [100, 101, 103, 114, 101, 101]))] cs
        else .ok (.tup (((colsOf ns d).map fun c => sumK ts (sortN c)).map Pv.int)) cs := by
  have a1 := fun cs => degree_asked (ns := ns) (d := d) cs
  have a2 := fun cs => names_asked ns (formOf ts) cs
  have a3 := fun cs => degree_ok (formOf ts) cs
  have m1 := mth_names ns
  have m2 := mth_degree (formOf ts)
  have p1 := prog_names ns
  have hat := at_terms (formOf ts)
  have key : ∀ r : Res Pv, fnSem 3 6 body_row_of [progV ns, formV (formOf ts), .int (d : Int)] cs = r → (∀ c fs, r = .exn c fs cs → nrf fs = true → m_row_of [progV ns, formV (formOf ts), .int (d : Int)] cs = r) ∧ (∀ v ex, r = .ok v (cs ++ ex) → nr v = true → m_row_of [progV ns, formV (formOf ts), .int (d : Int)] cs = .ok v cs) := fun r hr => by
    refine ⟨fun c fs e n => ?_, fun v ex e n => shut_val (by rw [hr]; exact e) n⟩
    rw [e]
    exact shut_exn (ex := []) (by rw [hr, e, List.append_nil]) n
  by_cases c1 : d = 2 ∧ 2 < ns.length
  · rw [if_pos c1]
    have a1 : ∀ cs, m_asked_degree [.lst (strL ns), .int (d : Int)] cs = .exn "BadCount" [("count", .int (ns.length : Int)), ("what", .str (S [110, 97, 109, 101, 115]))] cs := fun cs => by rw [a1 cs, if_pos c1]
    refine (key _ ?_).1 _ _ rfl (by simp)
    generalize progV ns = P at *
    generalize formV (formOf ts) = F at *
    generalize strL ns = M at *
    simp [body_row_of, m1, p1, a1]
  rw [if_neg c1]
  have a1 : ∀ cs, m_asked_degree [.lst (strL ns), .int (d : Int)] cs = .ok .non cs := fun cs => by rw [a1 cs, if_neg c1]
  split
  · rename_i l hl
    rw [hl] at a2
    refine (key _ ?_).1 _ _ rfl (by simp)
    generalize progV ns = P at *
    generalize formV (formOf ts) = F at *
    generalize strL ns = M at *
    simp [body_row_of, m1, p1, a1, a2]
  rename_i hl
  rw [hl] at a2
  by_cases c2 : d < degOf (formOf ts)
  · rw [if_pos c2]
    have c2' : (d : Int) < (degOf (formOf ts) : Int) := by omega
    refine (key _ ?_).1 _ _ rfl (by simp)
    generalize progV ns = P at *
    generalize degOf (formOf ts) = dg at *
    generalize formV (formOf ts) = F at *
    generalize strL ns = M at *
    simp [body_row_of, m1, p1, a1, a2, a3, m2, c2']
  rw [if_neg c2]
  have c2' : ¬ (d : Int) < (degOf (formOf ts) : Int) := by omega
  have hfl := form_lenK ts
  obtain ⟨y4, y5, e⟩ := dict_loop (x0 := some (progV ns)) (x1 := some (formV (formOf ts))) (x2 := some (.int (d : Int))) (cs := cs) (formOf ts) [] none none (by simp; omega)
  have hcl := cols_len (d := d) h
  have hlc : fLc (iAny (fCall m_columns (fCons (fMth "names" [("Program", m_Program_names)] (fVar 0) fNil) (fCons (fVar 2) fNil)))) (gN 5) fYes (fDGet2 (fVar 3) (fCall mTuple (fCons (fCall mSortT (fCons (fVar 5) fNil)) fNil)) (fCon (.int 0))) [5] [some (progV ns), some (formV (formOf ts)), some (.int (d : Int)), some (.dt (encD (dictOf (formOf ts) []))), y4, y5] (cs ++ [.dead]) = .ok (.lst ((colsOf ns d).map fun c => Pv.int (sumK ts (sortN c)))) (cs ++ [.dead]) := by
    refine fLc_map (L := colsOf ns d) (f := tupV) (h := fun c => Pv.int (sumK ts (sortN c))) ?_ (by omega) fun c hc => ?_
    · have hco := fun cs => columns_ok (d := d) h cs
      generalize progV ns = P at *
      generalize formV (formOf ts) = F at *
      generalize strL ns = M at *
      generalize (colsOf ns d).map tupV = CV at *
      simp [m1, p1, hco]
    · have hs := fun cs => sorted_namesT (k := c) (by have := (cols_mem hd hc).1; rcases hd with rfl | rfl <;> omega) cs
      have hk := keysP_strL (sortN c)
      have hv := val_enc (sortN c) (dictOf (formOf ts) [])
      have hdf := dict_form ts (sortN c)
      have hlk : ∀ cs, lookD cs (.dt (encD (dictOf (formOf ts) []))) (.tup (strL (sortN c))) = some ((look (dictOf (formOf ts) []) (sortN c)).map Pv.int) := fun cs => by
        unfold lookD
        simp only [dkR, dtR, dkOf, dtOf, hk, Option.map_some, hv]
      have hg : ((look (dictOf (formOf ts) []) (sortN c)).map Pv.int).getD (.int 0) = .int (sumK ts (sortN c)) := by
        rw [← hdf]; cases look (dictOf (formOf ts) []) (sortN c) <;> rfl
      have hisd : ∀ cs, isD cs (.dt (encD (dictOf (formOf ts) []))) = true := fun cs => rfl
      generalize tupV c = TV at *
      generalize encD (dictOf (formOf ts) []) = ED at *
      generalize strL (sortN c) = M at *
      simp [hisd, hs, hlk, hg]
  have em : ((colsOf ns d).map fun c => sumK ts (sortN c)).map Pv.int = (colsOf ns d).map fun c => Pv.int (sumK ts (sortN c)) := by rw [List.map_map]; rfl
  rw [em]
  refine (key (.ok (.tup ((colsOf ns d).map fun c => Pv.int (sumK ts (sortN c)))) (cs ++ [.dead])) ?_).2 _ _ rfl (by rw [← em, nr_tup]; exact nrs_ints _)
  have e : forL (gTurn (gT 2 (gsCons (gN 4) (gsCons (gN 5) gsNil))) body_row_of_1) ((formOf ts).map ttV) [some (progV ns), some (formV (formOf ts)), some (.int (d : Int)), some (.ref cs.length), none, none] (cs ++ [.dT []]) = .nx [some (progV ns), some (formV (formOf ts)), some (.int (d : Int)), some (.ref cs.length), y4, y5] (cs ++ [.dT (encD (dictOf (formOf ts) []))]) := e
  generalize degOf (formOf ts) = dg at *
  generalize progV ns = P at *
  generalize formV (formOf ts) = F at *
  generalize (formOf ts).map ttV = TT at *
  generalize encD (dictOf (formOf ts) []) = ED at *
  generalize strL ns = M at *
  generalize ((colsOf ns d).map fun c => Pv.int (sumK ts (sortN c))) = R at *
  simp only [body_row_of, ap_fnSem, ap_slots, List.map_cons, List.map_nil, List.length_cons, List.length_nil, List.replicate, List.cons_append, List.nil_append, ap_seq, ap_expr, ap_call, ap_cons, ap_nil, ap_mth, ap_var0, ap_varS, Res.bind_ok, m1, p1, a1, a2, Res.go_ok, RS.then_nx, ap_if, ap_tst, ap_f2, m2, a3]
  simp [c2', hat, e, hlc]
end Lw
set_option Elab.async false
set_option linter.all false
set_option autoImplicit false
set_option maxRecDepth 100000
set_option maxHeartbeats 4000000
namespace Lw
open PySem AL PySem.W
theorem sq {a b : FS} {sl sl1 : Sl} {cs cs1 : Cells} {r : RS} (h : a sl cs = .nx sl1 cs1) (k : b sl1 cs1 = r) : sSeq a b sl cs = r := by
  rw [ap_seq, h]
  exact k
theorem asg {i : Nat} {f : FE} {sl : Sl} {cs cs1 : Cells} {v : Pv} (h : f sl cs = .ok v cs1) : sAsg i f sl cs = .nx (sl.set i (some v)) cs1 := by
  rw [ap_asg, h]
  rfl
theorem ift {c : FT} {a b : FS} {sl : Sl} {cs cs1 : Cells} {r : RS} (h : c sl cs = .ok true cs1) (k : a sl cs1 = r) : sIf c a b sl cs = r := by
  rw [ap_if, h]
  exact k
theorem iff_ {c : FT} {a b : FS} {sl : Sl} {cs cs1 : Cells} {r : RS} (h : c sl cs = .ok false cs1) (k : b sl cs1 = r) : sIf c a b sl cs = r := by
  rw [ap_if, h]
  exact k
theorem exq {f : FE} {sl : Sl} {cs cs1 : Cells} {v : Pv} (h : f sl cs = .ok v cs1) : sExpr f sl cs = .nx sl cs1 := by
  rw [ap_expr, h]
  rfl
theorem forq {q : FG} {src : FI} {b : FS} {sl : Sl} {cs cs1 : Cells} {ps : List Pv} {r : RS} (h : src sl cs = .ok (.fz ps) cs1) (k : forL (gTurn q b) ps sl cs1 = r) : sFor q src b sl cs = r := by
  rw [ap_for, h]
  exact k
theorem sqr {a b : FS} {sl : Sl} {cs cs1 : Cells} {v : Pv} (h : a sl cs = .rt v cs1) : sSeq a b sl cs = .rt v cs1 := by
  rw [ap_seq, h]
  rfl
theorem retq {f : FE} {sl : Sl} {cs cs1 : Cells} {v : Pv} (h : f sl cs = .ok v cs1) : sRet f sl cs = .rt v cs1 := by
  rw [ap_ret, h]
  rfl
end Lw
set_option Elab.async false
set_option linter.all false
set_option autoImplicit false
set_option maxRecDepth 100000
set_option maxHeartbeats 4000000
namespace Lw
open PySem AL PySem.W
theorem eqI (i j : Int) (cs : Cells) : oEqA (.int i) (.int j) cs = .ok (.bl (i == j)) cs := rfl
/-- draws, one behind the other -/
theorem lcL_dr {α : Type} {k : Nat} {turn : Pv → Cells → Res (Option Pv)} {P : α → Prop} {f : α → Pv} (ht : ∀ p cs, GS cs k → ∃ a cs', turn p cs = .ok (some (f a)) cs' ∧ P a ∧ Dr k cs cs') : ∀ (ps : List Pv) (cs : Cells), GS cs k → ∃ (L : List α) (cs' : Cells), lcL turn ps cs = .ok (L.map f) cs' ∧ L.length = ps.length ∧ (∀ a ∈ L, P a) ∧ Dr k cs cs'
  | [], cs, g => ⟨[], cs, rfl, rfl, fun a h => absurd h List.not_mem_nil, g.refl⟩
  | p :: ps, cs, g => by
    obtain ⟨a, c1, e1, h1, d1⟩ := ht p cs g
    obtain ⟨L, c2, e2, l2, h2, d2⟩ := lcL_dr ht ps c1 (g.dr d1)
    refine ⟨a :: L, c2, ?_, by rw [List.length_cons, l2]; rfl, fun b hb => ?_, d1.trans d2⟩
    · show ((turn p cs).bind fun o cs1 => (lcL turn ps cs1).bind fun ys cs2 => .ok (match o with | some y => y :: ys | none => ys) cs2) = _
      rw [e1]
      show ((lcL turn ps c1).bind fun ys cs2 => .ok (f a :: ys) cs2) = _
      rw [e2]; rfl
    · rcases List.mem_cons.mp hb with rfl | hb
      · exact h1
      · exact h2 b hb
theorem get_midC (a : Cells) (c : Co) (e : Cells) : (a ++ c :: e)[a.length]? = some c := by simp
theorem set_midC (a : Cells) (c d : Co) (e : Cells) : (a ++ c :: e).set a.length d = a ++ d :: e := by simp
theorem isName_sg {l : List Nat} (h : isName l = true) : Sg l := by
  cases l with
  | nil => cases h
  | cons c r =>
    unfold isName at h
    rw [Bool.and_eq_true] at h
    intro x hx
    have hx := List.all_eq_true.mp h.2 x hx
    unfold nameCh at hx
    rw [Bool.or_eq_true] at hx
    have a1 : ∀ y ∈ letL, y < 1114112 := by decide
    have a2 : ∀ y ∈ figL, y < 1114112 := by decide
    rcases hx with hx | hx
    · exact a1 x (of_decide_eq_true hx)
    · exact a2 x (of_decide_eq_true hx)
def strgL : List (List Nat) := [[122, 122, 122, 122, 122, 122, 122, 49], [122, 122, 122, 122, 122, 122, 122, 50], [122, 122, 122, 122, 122, 122, 57, 57]]
theorem strg_at {d : Int} (h0 : 0 ≤ d) (h1 : d < 3) (cs : Cells) : ∃ l, oIx (.lst (strL strgL)) (.int d) cs = .ok (.str (S l)) cs ∧ isName l = true := by
  have : d = 0 ∨ d = 1 ∨ d = 2 := by omega
  rcases this with e | e | e <;> subst e
  · exact ⟨_, rfl, by decide⟩
  · exact ⟨_, rfl, by decide⟩
  · exact ⟨_, rfl, by decide⟩
/-- a term of the law -/
def TmL (t : Tm) : Prop := 0 < t.1 ∧ t.1 ≤ 3 ∧ t.2.length ≤ 2 ∧ ∀ l ∈ t.2, isName l = true
section
variable {k : Nat} {ns : List (List Nat)}
theorem some_drawn {x0 x2 x3 x4 x5 : Option Pv} (h0 : x0 = some (.ref k)) (hne : ns ≠ []) (hns : ns.length ≤ 10) (nn : ∀ l ∈ ns, isName l = true) {cs : Cells} (g : GS cs k) :
    ∃ (L : List (List Nat)) (c : Cells), fLcC (iRange1 (fCall m_law_digit (fCons (fVar 0) (fCons (fCon (.int 3)) fNil)))) (gN 5) fYes (f2 oIx (fVar 1) (fCall m_law_digit (fCons (fVar 0) (fCons (fCall mLen (fCons (fVar 1) fNil)) fNil)))) [5] [x0, some (.lst (strL ns)), x2, x3, x4, x5] cs = .ok (.ref c.length) (c ++ [.lst (strL L)]) ∧ L.length ≤ 2 ∧ (∀ l ∈ L, isName l = true) ∧ Dr k cs c := by
  subst h0
  obtain ⟨d, c1, e1, d0, d1, r1⟩ := digit_ok g (n := 3) (by decide) (by decide)
  obtain ⟨m, rfl⟩ : ∃ m : Nat, d = (m : Int) := ⟨d.toNat, by omega⟩
  have hpos : 0 < ns.length := List.length_pos_iff.mpr hne
  have hfn : fits ns.length = true := fits_ok (by omega)
  have hlen : ∀ cc, mLen [.lst (strL ns)] cc = .ok (.int (ns.length : Int)) cc := fun cc => by
    have : (strL ns).length = ns.length := List.length_map ..
    simp [mLen, asL, this]
  obtain ⟨L, c2, e2, l2, h2, r2⟩ := lcL_dr (α := List Nat) (k := k) (turn := lcTurn (gN 5) fYes (f2 oIx (fVar 1) (fCall m_law_digit (fCons (fVar 0) (fCons (fCall mLen (fCons (fVar 1) fNil)) fNil)))) [some (.ref k), some (.lst (strL ns)), x2, x3, x4, none]) (P := fun l => isName l = true) (f := fun l => Pv.str (S l)) (fun p c gc => by
    obtain ⟨d5, c', e, h0, h1, r⟩ := digit_ok gc (n := (ns.length : Int)) (by omega) (by
      have : ((ns.length : Int)).natAbs ≤ 1000 := by omega
      exact Nat.lt_of_le_of_lt this (by decide))
    obtain ⟨i, rfl⟩ : ∃ i : Nat, d5 = (i : Int) := ⟨d5.toNat, by omega⟩
    have hi : i < ns.length := by omega
    have hix : oIx (.lst (strL ns)) (.int (i : Int)) c' = .ok (.str (S ns[i])) c' := by
      have hat : L2.atI (strL ns) (i : Int) = some (.str (S ns[i])) := L2.atI_nat (by rw [List.getElem?_map, List.getElem?_eq_getElem hi]; rfl)
      rw [v_ixL, hat]
    refine ⟨ns[i], c', ?_, nn _ (List.getElem_mem hi), r⟩
    unfold lcTurn
    show (noX (f2 oIx (fVar 1) (fCall m_law_digit (fCons (fVar 0) (fCons (fCall mLen (fCons (fVar 1) fNil)) fNil))) [some (.ref k), some (.lst (strL ns)), x2, x3, x4, some p] c)).bind _ = _
    have e3 : f2 oIx (fVar 1) (fCall m_law_digit (fCons (fVar 0) (fCons (fCall mLen (fCons (fVar 1) fNil)) fNil))) [some (.ref k), some (.lst (strL ns)), x2, x3, x4, some p] c = .ok (.str (S ns[i])) c' := by
      generalize strL ns = M at *
      simp only [ap_f2, ap_call, ap_cons, ap_nil, ap_varS, ap_var0, ap_con, Res.bind_ok, hlen, e, hix]
    rw [e3]; rfl) ((List.range m).map fun (i : Nat) => Pv.int (i : Int)) c1 (g.dr r1)
  have rg : rngOk (m : Int) = true := rngOk.of (by omega) (by omega)
  refine ⟨L, c2, ?_, by rw [l2, List.length_map, List.length_range]; omega, h2, r1.trans r2⟩
  have hsrc : iRange1 (fCall m_law_digit (fCons (fVar 0) (fCons (fCon (.int 3)) fNil))) [some (.ref k), some (.lst (strL ns)), x2, x3, x4, x5] cs = .ok (.fz ((List.range m).map fun (i : Nat) => Pv.int (i : Int))) c1 := by
    simp only [ap_iRange1, ap_call, ap_cons, ap_nil, ap_varS, ap_var0, ap_con, Res.bind_ok, e1, rg, guard_true, Int.toNat_natCast]
  unfold fLcC
  rw [hsrc]
  have hw : wipeS [some (.ref k), some (.lst (strL ns)), x2, x3, x4, x5] [5] = [some (.ref k), some (.lst (strL ns)), x2, x3, x4, none] := rfl
  rw [hw]
  have hf : fits ((List.range m).map fun (i : Nat) => Pv.int (i : Int)).length = true := fits_ok (by rw [List.length_map, List.length_range]; omega)
  show (guard_ (fits ((List.range m).map fun (i : Nat) => Pv.int (i : Int)).length) (lcL _ ((List.range m).map fun (i : Nat) => Pv.int (i : Int)) c1)).bind _ = _
  rw [hf]
  show (lcL _ ((List.range m).map fun (i : Nat) => Pv.int (i : Int)) c1).bind _ = _
  rw [e2]; rfl
theorem ne_nilR {L : List (List Nat)} (h : ∀ l ∈ L, isName l = true) {cs : Cells} {j : Nat} (hj : cs[j]? = some (.lst (strL L))) : oNeA (.ref j) (.lst []) cs = .ok (.bl (!L.isEmpty)) cs := by
  have q := v_neNil (L := L) (f := fun l => l) (fun l hl => isName_sg (h l hl)) true cs
  have e : eqD true (.ref j) (.lst []) cs = eqD true (.lst (strL L)) (.lst []) cs := by
    have : deref cs (.ref j) = deref cs (.lst (strL L)) := by
      show (match cs[j]? with | some (.lst xs) => Pv.lst xs | _ => .ref j) = _
      rw [hj]; rfl
    unfold eqD
    rw [this]
  show eqD true (.ref j) (.lst []) cs = _
  rw [e]
  exact q
/-- some of them strange -/
theorem strange_drawn {L : List (List Nat)} {x1 x2 x3 x5 : Option Pv} (hL : L.length ≤ 2) (hn : ∀ l ∈ L, isName l = true) {c2 : Cells} (g : GS c2 k) :
    ∃ (L' : List (List Nat)) (c4 : Cells), sIf (fAnd (fTst (f2 oEqA (fCall m_law_digit (fCons (fVar 0) (fCons (fCon (.int 6)) fNil))) (fCon (.int 0)))) (fTst (f2 oNeA (fVar 4) (fLst fNil)))) (sPutIx (fVar 4) (fCall m_law_digit (fCons (fVar 0) (fCons (fCall mLen (fCons (fVar 4) fNil)) fNil))) (f2 oIx (fLst (fCons (fCon (.str (S [122, 122, 122, 122, 122, 122, 122, 49]))) (fCons (fCon (.str (S [122, 122, 122, 122, 122, 122, 122, 50]))) (fCons (fCon (.str (S [122, 122, 122, 122, 122, 122, 57, 57]))) fNil)))) (fCall m_law_digit (fCons (fVar 0) (fCons (fCon (.int 3)) fNil))))) sPass [some (.ref k), x1, x2, x3, some (.ref c2.length), x5] (c2 ++ [.lst (strL L)]) = .nx [some (.ref k), x1, x2, x3, some (.ref c2.length), x5] (c4 ++ [.lst (strL L')]) ∧ L'.length ≤ 2 ∧ (∀ l ∈ L', isName l = true) ∧ Dr k c2 c4 := by
  have f3' : fits 3 = true := rfl
  have f0' : fits 0 = true := rfl
  obtain ⟨d, c3, e3, d0, d1, r3⟩ := digit_ok (g.app [.lst (strL L)]) (n := 6) (by decide) (by decide)
  obtain ⟨b3, rfl, q3⟩ := r3.split g.lt
  have l3 := q3.len
  have g3 := g.dr q3
  have hget : (b3 ++ [Co.lst (strL L)])[c2.length]? = some (.lst (strL L)) := by rw [← l3]; exact get_end _
  have hne := ne_nilR hn hget
  by_cases hd : d = 0
  · cases hL0 : L with
    | nil =>
      subst hL0
      have hne : oNeA (.ref c2.length) (.lst []) (b3 ++ [Co.lst (strL [])]) = .ok (.bl false) (b3 ++ [Co.lst (strL [])]) := hne
      refine ⟨[], b3, iff_ (cs1 := b3 ++ [.lst (strL [])]) ?_ rfl, by simp, fun _ h => absurd h List.not_mem_nil, q3⟩
      subst hd
      generalize strL ([] : List (List Nat)) = M at *
      have t0 : ((0 : Int) == 0) = true := rfl
      simp only [ap_and, ap_tst, ap_f2, ap_call, ap_cons, ap_nil, ap_varS, ap_var0, ap_con, Res.bind_ok, e3, eqI, t0, if_true, ap_lst, List.length_nil, f0', guard_true, hne]
    | cons l0 L0 =>
      rw [← hL0]
      have hne : oNeA (.ref c2.length) (.lst []) (b3 ++ [Co.lst (strL L)]) = .ok (.bl true) (b3 ++ [Co.lst (strL L)]) := by rw [hne, hL0]; rfl
      have hpos : 0 < L.length := by rw [hL0]; simp
      obtain ⟨u, c5, e5, u0, u1, r5⟩ := digit_ok (g3.app [.lst (strL L)]) (n := 3) (by decide) (by decide)
      obtain ⟨b5, rfl, q5⟩ := r5.split g3.lt
      have l5 := q5.len
      have g5 := g3.dr q5
      obtain ⟨w, hw, wn⟩ := strg_at u0 u1 (b5 ++ [Co.lst (strL L)])
      have hget5 : (b5 ++ [Co.lst (strL L)])[c2.length]? = some (.lst (strL L)) := by rw [← l3, ← l5]; exact get_end _
      obtain ⟨i, c6, e6, i0, i1, r6⟩ := digit_ok (g5.app [.lst (strL L)]) (n := (L.length : Int)) (by omega) (by
        have : ((L.length : Int)).natAbs ≤ 2 := by omega
        exact Nat.lt_of_le_of_lt this (by decide))
      obtain ⟨b6, rfl, q6⟩ := r6.split g5.lt
      have l6 := q6.len
      obtain ⟨m, rfl⟩ : ∃ m : Nat, i = (m : Int) := ⟨i.toNat, by omega⟩
      have hm : m < L.length := by omega
      have hget6 : (b6 ++ [Co.lst (strL L)])[c2.length]? = some (.lst (strL L)) := by rw [← l3, ← l5, ← l6]; exact get_end _
      have hlen : mLen [.ref c2.length] (b5 ++ [Co.lst (strL L)]) = .ok (.int (L.length : Int)) (b5 ++ [Co.lst (strL L)]) := by
        have : (strL L).length = L.length := List.length_map ..
        simp [mLen, asL, hget5, this]
      have hput : putIx (.ref c2.length) (.int (m : Int)) (.str (S w)) (b6 ++ [Co.lst (strL L)]) = some (b6 ++ [Co.lst (strL (L.set m w))]) := by
        have hix : L2.ixN (strL L).length (m : Int) = some m := by
          have : (strL L).length = L.length := List.length_map ..
          rw [this]
          unfold L2.ixN
          simp [hm]
        have hs : (strL L).set m (.str (S w)) = strL (L.set m w) := by
          show (L.map fun l => Pv.str (S l)).set m (Pv.str (S w)) = (L.set m w).map fun l => Pv.str (S l)
          rw [List.map_set]
        unfold putIx
        simp only [hget6, hix, hs]
        rw [← l3, ← l5, ← l6, set_end]
      refine ⟨L.set m w, b6, ift (cs1 := b3 ++ [.lst (strL L)]) ?_ ?_, by rw [List.length_set]; exact hL, fun l hl => ?_, (q3.trans q5).trans q6⟩
      · subst hd
        generalize strL L = M at *
        have t0 : ((0 : Int) == 0) = true := rfl
        simp only [ap_and, ap_tst, ap_f2, ap_call, ap_cons, ap_nil, ap_varS, ap_var0, ap_con, Res.bind_ok, e3, eqI, t0, if_true, ap_lst, List.length_nil, f0', guard_true, hne]
      · have hw : oIx (.lst [.str (S [122, 122, 122, 122, 122, 122, 122, 49]), .str (S [122, 122, 122, 122, 122, 122, 122, 50]), .str (S [122, 122, 122, 122, 122, 122, 57, 57])]) (.int u) (b5 ++ [Co.lst (strL L)]) = .ok (.str (S w)) (b5 ++ [Co.lst (strL L)]) := hw
        generalize strL (L.set m w) = M' at *
        generalize strL L = M at *
        generalize S w = SW at *
        rw [ap_putIx]
        simp only [ap_f2, ap_lst, ap_call, ap_cons, ap_nil, ap_varS, ap_var0, ap_con, Res.bind_ok, List.length_cons, List.length_nil, Nat.zero_add, Nat.reduceAdd, f3', guard_true, e5, hw, Res.go_ok, hlen, e6, hput]
      · rcases List.mem_or_eq_of_mem_set hl with hl | rfl
        · exact hn l hl
        · exact wn
  · refine ⟨L, b3, iff_ (cs1 := b3 ++ [.lst (strL L)]) ?_ rfl, hL, hn, q3⟩
    have t0 : (d == 0) = false := beq_eq_false_iff_ne.mpr hd
    generalize strL L = M at *
    simp only [ap_and, ap_tst, ap_f2, ap_call, ap_cons, ap_nil, ap_varS, ap_var0, ap_con, Res.bind_ok, e3, eqI, t0, Bool.false_eq_true, if_false]
/-- one term -/
theorem term_turn (hne : ns ≠ []) (hns : ns.length ≤ 10) (nn : ∀ l ∈ ns, isName l = true) {a E : Cells} {M : List Pv} (hM : M.length < 1000) (g : GS a k) (x3 x4 x5 : Option Pv) :
    ∃ (t : Tm) (b E' : Cells) (y4 y5 : Option Pv), body_law_terms_1 [some (.ref k), some (.lst (strL ns)), some (.ref a.length), x3, x4, x5] (a ++ Co.lst M :: E) = .nx [some (.ref k), some (.lst (strL ns)), some (.ref a.length), x3, y4, y5] (b ++ Co.lst (M ++ [tmV t]) :: E') ∧ TmL t ∧ Dr k a b := by
  have f2' : fits 2 = true := rfl
  obtain ⟨L, c2, e2, l2, h2, r2⟩ := some_drawn (x2 := some (.ref a.length)) (x3 := x3) (x4 := x4) (x5 := x5) rfl hne hns nn (g.app (Co.lst M :: E))
  obtain ⟨b2, rfl, q2⟩ := r2.split g.lt
  have g2 := g.dr q2
  obtain ⟨L', c4, e4, l4, h4, r4⟩ := strange_drawn (x1 := some (.lst (strL ns))) (x2 := some (.ref a.length)) (x3 := x3) (x5 := x5) l2 h2 (g2.app (Co.lst M :: E))
  obtain ⟨b4, rfl, q4⟩ := r4.split g2.lt
  have g4 := g2.dr q4
  have n2 : (b2 ++ Co.lst M :: E).length = (b4 ++ Co.lst M :: E).length := by rw [List.length_append, List.length_append, q4.len]
  have hget : (b4 ++ Co.lst M :: E ++ [Co.lst (strL L')])[(b2 ++ Co.lst M :: E).length]? = some (.lst (strL L')) := by rw [n2]; exact get_end _
  have hset : (b4 ++ Co.lst M :: E ++ [Co.lst (strL L')]).set (b2 ++ Co.lst M :: E).length .dead = b4 ++ Co.lst M :: E ++ [Co.dead] := by rw [n2]; exact set_end ..
  have ea : ∀ (c : Cells) (X : List Pv), c ++ Co.lst X :: E ++ [Co.dead] = c ++ Co.lst X :: (E ++ [Co.dead]) := fun c X => by simp
  rw [ea] at hset
  obtain ⟨z, c5, e5, z0, z1, r5⟩ := digit_ok (g4.app (Co.lst M :: (E ++ [Co.dead]))) (n := 3) (by decide) (by decide)
  obtain ⟨b5, rfl, q5⟩ := r5.split g4.lt
  have n4 : a.length = b4.length := by rw [q4.len, q2.len]
  have n5 : a.length = b5.length := by rw [q5.len, q4.len, q2.len]
  have hty : tyIs "list" (.ref a.length) (b4 ++ Co.lst M :: (E ++ [Co.dead])) = true := by rw [n4]; exact v_tyList (get_midC _ _ _)
  have hap := v_append (cs := b5 ++ Co.lst M :: (E ++ [Co.dead])) (k := b5.length) (xs := M) (get_midC _ _ _) (by omega) (tmV (1 + z, L'))
  rw [set_midC, ← n5] at hap
  refine ⟨(1 + z, L'), b5, E ++ [.dead], some (.lst (strL L')), x5, ?_, ⟨by show (0 : Int) < 1 + z; omega, by show (1 + z : Int) ≤ 3; omega, l4, h4⟩, (q2.trans q4).trans q5⟩
  have etm : tmV (1 + z, L') = .tup [.int (1 + z), .lst (strL L')] := rfl
  rw [etm] at hap ⊢
  generalize hM' : M ++ [Pv.tup [.int (1 + z), .lst (strL L')]] = M' at *
  unfold body_law_terms_1
  refine sq (asg e2) (sq e4 (sq (sl1 := [some (.ref k), some (.lst (strL ns)), some (.ref a.length), x3, some (.lst (strL L')), x5]) (cs1 := b4 ++ Co.lst M :: (E ++ [Co.dead])) ?_ ?_))
  · rw [ap_frz]
    simp only [List.getElem?_cons_succ, List.getElem?_cons_zero, hget, ap_frzL, hset, List.set_cons_succ, List.set_cons_zero]
  · refine exq (v := .non) ?_
    generalize strL L' = N at *
    generalize strL ns = NS at *
    rw [ap_meth]
    simp only [ap_varS, ap_var0, Res.bind_ok, hty, guard_true, ap_tup, ap_cons, ap_nil, ap_f2, ap_call, ap_con, e5, v_addI, List.length_cons, List.length_nil, Nat.zero_add, Nat.reduceAdd, f2', hap]
theorem terms_loopL (hne : ns ≠ []) (hns : ns.length ≤ 10) (nn : ∀ l ∈ ns, isName l = true) : ∀ (ps : List Pv) (T : List Tm) (a E : Cells) (n : Nat) (x3 x4 x5 : Option Pv), GS a k → n = a.length → T.length + ps.length ≤ 100 → (∀ t ∈ T, TmL t) →
    ∃ (T' : List Tm) (a' E' : Cells) (y3 y4 y5 : Option Pv), forL (gTurn (gN 3) body_law_terms_1) ps [some (.ref k), some (.lst (strL ns)), some (.ref n), x3, x4, x5] (a ++ Co.lst (T.map tmV) :: E) = .nx [some (.ref k), some (.lst (strL ns)), some (.ref n), y3, y4, y5] (a' ++ Co.lst (T'.map tmV) :: E') ∧ T'.length = T.length + ps.length ∧ (∀ t ∈ T', TmL t) ∧ Dr k a a'
  | [], T, a, E, n, x3, x4, x5, hg, hn, hl, hs => ⟨T, a, E, x3, x4, x5, rfl, rfl, hs, hg.refl⟩
  | p :: ps, T, a, E, n, x3, x4, x5, hg, hn, hl, hs => by
    simp only [List.length_cons] at hl
    subst hn
    obtain ⟨t, b, E1, y4, y5, e1, ht, d1⟩ := term_turn (M := T.map tmV) (E := E) hne hns nn (by rw [List.length_map]; omega) hg (some p) x4 x5
    have em : T.map tmV ++ [tmV t] = (T ++ [t]).map tmV := by rw [List.map_append]; rfl
    rw [em] at e1
    obtain ⟨T', a', E', z3, z4, z5, e2, h1, h2, h3⟩ := terms_loopL hne hns nn ps (T ++ [t]) b E1 a.length (some p) y4 y5 (hg.dr d1) d1.len.symm (by simp; omega) (fun x hx => by
      rcases List.mem_append.mp hx with hx | hx
      · exact hs x hx
      · rw [List.mem_singleton.mp hx]; exact ht)
    refine ⟨T', a', E', z3, z4, z5, ?_, by rw [h1]; simp; omega, h2, d1.trans h3⟩
    show (body_law_terms_1 [some (.ref k), some (.lst (strL ns)), some (.ref a.length), some p, x4, x5] _).turn _ = _
    rw [e1]
    exact e2
theorem terms_drawn (hne : ns ≠ []) (hns : ns.length ≤ 10) (nn : ∀ l ∈ ns, isName l = true) {cs : Cells} (h : GS cs k) : ∃ (T : List Tm) (cs' : Cells), m_law_terms [.ref k, .lst (strL ns)] cs = .ok (.lst (T.map tmV)) cs' ∧ T.length ≤ 4 ∧ (∀ t ∈ T, TmL t) ∧ Dr k cs cs' := by
  have g0 := h.app [.lst []]
  obtain ⟨d, c1, e1, a1, b1, r1⟩ := digit_ok g0 (n := 5) (by decide) (by decide)
  obtain ⟨n, rfl⟩ : ∃ n : Nat, d = (n : Int) := ⟨d.toNat, by omega⟩
  obtain ⟨b, rfl, hb⟩ := r1.split h.lt
  have hbl := hb.len
  obtain ⟨T, a, E, y3, y4, y5, e, h1, h3, h4⟩ := terms_loopL hne hns nn ((List.range n).map fun (j : Nat) => Pv.int (j : Int)) [] b [] cs.length none none none (h.dr hb) hbl.symm (by simp; omega) (fun _ hx => by simp at hx)
  refine ⟨T, a, ?_, by simp at h1; omega, h3, hb.trans h4⟩
  have rg : rngOk (n : Int) = true := rngOk.of (by omega) (by omega)
  have f0 : fits 0 = true := rfl
  have hl : a.length = cs.length := by rw [h4.len, hbl]
  have hget : (a ++ Co.lst (T.map tmV) :: E)[cs.length]? = some (.lst (T.map tmV)) := by rw [← hl]; exact get_midC _ _ _
  have hset : (a ++ Co.lst (T.map tmV) :: E).set cs.length .dead = a ++ Co.dead :: E := by rw [← hl, set_midC]
  refine shut_dr (ex := Co.dead :: E) ?_ h (hb.trans h4) (by show nrs _ = true; exact nrs_tms T)
  have e : forL (gTurn (gN 3) body_law_terms_1) ((List.range n).map fun (j : Nat) => Pv.int (j : Int)) [some (.ref k), some (.lst (strL ns)), some (.ref cs.length), none, none, none] (b ++ [Co.lst []]) = .nx [some (.ref k), some (.lst (strL ns)), some (.ref cs.length), y3, y4, y5] (a ++ Co.lst (T.map tmV) :: E) := e
  generalize hM : T.map tmV = M at *
  generalize hX : strL ns = X at *
  simp [body_law_terms, f0, e1, rg, e, hget, hset]
end
end Lw
set_option Elab.async false
set_option linter.all false
set_option autoImplicit false
set_option maxRecDepth 100000
set_option maxHeartbeats 4000000
namespace Lw
open PySem AL PySem.W PyProof.Rows
def mS (k : List (List Nat)) : List Str := k.map S
theorem mS_inj {a b : List (List Nat)} (h : mS a = mS b) : a = b := by
  have : (mS a).map (fun s => s.cps.toList) = (mS b).map (fun s => s.cps.toList) := by rw [h]
  unfold mS at this
  rw [List.map_map, List.map_map] at this
  have e : ((fun s : Str => s.cps.toList) ∘ S) = id := funext fun l => S_toList l
  rw [e, List.map_id, List.map_id] at this
  exact this
theorem le_mS (a b : List (List Nat)) : dataLe false encT (mS a) (mS b) = decide (a ≤ b) := by
  show (!dataLt (encT (mS b)) (encT (mS a))) = _
  have e : ∀ k, encT (mS k) = .tuple (k.map strD) := fun k => by unfold encT mS; rw [strD_map]
  rw [e, e, dataLt_tuple]
  have q : lexLt itemOrd (keyToksAll (b.map strD)) (keyToksAll (a.map strD)) = decide (b < a) := rowLt_strs b a
  rw [q, ← decide_not]
  exact decide_eq_decide.mpr (le_iff a b).symm
/-- each of them once, in order -/
theorem srt_of (T : List (List (List Nat))) : ∃ K : List (List (List Nat)), srtT (T.map mS) = K.map mS ∧ K.Nodup ∧ K.Pairwise (fun a b => a ≤ b) ∧ ∀ k, k ∈ K ↔ k ∈ T := by
  obtain ⟨X, hX⟩ : ∃ X, X = srtT (T.map mS) := ⟨_, rfl⟩
  have hmem : ∀ x ∈ X, ∃ k, k ∈ T ∧ mS k = x := fun x hx => by
    rw [hX] at hx
    exact List.mem_map.mp (srtT_mem.mp hx)
  obtain ⟨K, hK⟩ : ∃ K : List (List (List Nat)), K.map mS = X := by
    have : ∀ Y : List (List Str), (∀ x ∈ Y, ∃ k, mS k = x) → ∃ K : List (List (List Nat)), K.map mS = Y := by
      intro Y
      induction Y with
      | nil => exact fun _ => ⟨[], rfl⟩
      | cons y Y ih =>
        intro h
        obtain ⟨k, hk⟩ := h y List.mem_cons_self
        obtain ⟨K, hK⟩ := ih fun x hx => h x (List.mem_cons_of_mem _ hx)
        exact ⟨k :: K, by rw [List.map_cons, hk, hK]⟩
    exact this X fun x hx => by
      obtain ⟨k, _, e⟩ := hmem x hx
      exact ⟨k, e⟩
  have nd : X.Nodup := by rw [hX]; exact (List.mergeSort_perm _ _).nodup_iff.mpr (onesT_nodup _)
  have pw : X.Pairwise (fun a b => dataLe false encT a b = true) := by rw [hX]; exact List.pairwise_mergeSort leT_trans leT_total _
  refine ⟨K, by rw [← hX, hK], ?_, ?_, fun k => ?_⟩
  · rw [← hK] at nd
    exact (List.pairwise_map.mp nd).imp fun h e => h (by rw [e])
  · rw [← hK, List.pairwise_map] at pw
    exact pw.imp fun {a b} h => by
      rw [le_mS] at h
      exact of_decide_eq_true h
  · constructor
    · intro h
      obtain ⟨j, hj, e⟩ := hmem (mS k) (by rw [← hK]; exact List.mem_map.mpr ⟨k, h, rfl⟩)
      rw [← mS_inj e]; exact hj
    · intro h
      have : mS k ∈ X := by rw [hX]; exact srtT_mem.mpr (List.mem_map.mpr ⟨k, h, rfl⟩)
      rw [← hK] at this
      obtain ⟨j, hj, e⟩ := List.mem_map.mp this
      rw [← mS_inj e]; exact hj
/-- those of n names -/
def ofLen (n : Nat) (K : List (List (List Nat))) : List (List (List Nat)) := K.filter fun k => decide (k.length = n)
theorem eqI2 (i j : Nat) (cs : Cells) : oEqA (.int (i : Int)) (.int (j : Int)) cs = .ok (.bl (decide (i = j))) cs := by
  show Res.ok (Pv.bl ((i : Int) == (j : Int))) cs = _
  congr 2
  by_cases h : i = j
  · subst h; simp
  · have : ¬ (i : Int) = (j : Int) := by omega
    rw [decide_eq_false h]
    exact beq_eq_false_iff_ne.mpr this
theorem inner_ok {x0 x1 x5 : Option Pv} {n : Nat} {cs : Cells} : ∀ (K : List (List (List Nat))) (F : List (List Nat)) (x4 : Option Pv), (∀ k ∈ K, k.length ≤ 2) → F.length + 2 * K.length ≤ 1000 →
    ∃ y4, forL (gTurn (gN 4) body_law_sorted_1) (K.map tupV) [x0, x1, some (.lst (strL F)), some (.int (n : Int)), x4, x5] cs = .nx [x0, x1, some (.lst (strL (F ++ (ofLen n K).flatten))), some (.int (n : Int)), y4, x5] cs
  | [], F, x4, _, _ => ⟨x4, by show RS.nx _ cs = _; simp [ofLen]⟩
  | k :: K, F, x4, hk, hl => by
    rw [List.length_cons] at hl
    have hk0 := hk k List.mem_cons_self
    have hlen : mLen [tupV k] cs = .ok (.int (k.length : Int)) cs := by
      have : (strL k).length = k.length := List.length_map ..
      show Res.ok (Pv.int ((strL k).length : Int)) cs = _
      rw [this]
    have heq := eqI2 k.length n cs
    by_cases h : k.length = n
    · have eF : F ++ (ofLen n (k :: K)).flatten = (F ++ k) ++ (ofLen n K).flatten := by
        unfold ofLen
        rw [List.filter_cons, if_pos (decide_eq_true h), List.flatten_cons, List.append_assoc]
      obtain ⟨y4, e⟩ := inner_ok (x0 := x0) (x1 := x1) (x5 := x5) (n := n) (cs := cs) K (F ++ k) (some (tupV k)) (fun j hj => hk j (List.mem_cons_of_mem _ hj)) (by rw [List.length_append]; omega)
      refine ⟨y4, ?_⟩
      rw [eF]
      have hml : mList [tupV k] cs = .ok (.lst (strL k)) cs := rfl
      have hf : fits ((strL F).length + (strL k).length) = true := fits_ok (by rw [List.length_map, List.length_map]; omega)
      have hadd : oAdd (.lst (strL F)) (.lst (strL k)) cs = .ok (.lst (strL (F ++ k))) cs := by
        rw [v_addL, hf, guard_true]
        show Res.ok (Pv.lst (strL F ++ strL k)) cs = _
        rw [← List.map_append]
      have t1 : body_law_sorted_1 [x0, x1, some (.lst (strL F)), some (.int (n : Int)), some (tupV k), x5] cs = .nx [x0, x1, some (.lst (strL (F ++ k))), some (.int (n : Int)), some (tupV k), x5] cs := by
        rw [decide_eq_true h] at heq
        clear hf
        generalize strL (F ++ k) = M3 at *
        generalize strL F = M1 at *
        generalize strL k = M2 at *
        generalize tupV k = TV at *
        unfold body_law_sorted_1
        refine ift (cs1 := cs) ?_ (asg ?_)
        · simp only [ap_tst, ap_f2, ap_call, ap_cons, ap_nil, ap_varS, ap_var0, Res.bind_ok, hlen, heq]
        · simp only [ap_f2, ap_call, ap_cons, ap_nil, ap_varS, ap_var0, Res.bind_ok, hml, hadd]
      rw [List.map_cons]
      show (body_law_sorted_1 [x0, x1, some (.lst (strL F)), some (.int (n : Int)), some (tupV k), x5] cs).turn _ = _
      rw [t1]
      exact e
    · have eF : F ++ (ofLen n (k :: K)).flatten = F ++ (ofLen n K).flatten := by
        unfold ofLen
        rw [List.filter_cons, if_neg (by rw [decide_eq_false h]; decide)]
      obtain ⟨y4, e⟩ := inner_ok (x0 := x0) (x1 := x1) (x5 := x5) (n := n) (cs := cs) K F (some (tupV k)) (fun j hj => hk j (List.mem_cons_of_mem _ hj)) (by omega)
      refine ⟨y4, ?_⟩
      rw [eF]
      have t1 : body_law_sorted_1 [x0, x1, some (.lst (strL F)), some (.int (n : Int)), some (tupV k), x5] cs = .nx [x0, x1, some (.lst (strL F)), some (.int (n : Int)), some (tupV k), x5] cs := by
        rw [decide_eq_false h] at heq
        generalize strL F = M1 at *
        generalize tupV k = TV at *
        unfold body_law_sorted_1
        refine iff_ (cs1 := cs) ?_ rfl
        simp only [ap_tst, ap_f2, ap_call, ap_cons, ap_nil, ap_varS, ap_var0, Res.bind_ok, hlen, heq]
      rw [List.map_cons]
      show (body_law_sorted_1 [x0, x1, some (.lst (strL F)), some (.int (n : Int)), some (tupV k), x5] cs).turn _ = _
      rw [t1]
      exact e
theorem mapT (T : List (List (List Nat))) : T.map tupV = (T.map mS).map tupT := by
  rw [List.map_map]
  refine List.map_congr_left fun k _ => ?_
  show Pv.tup (strL k) = Pv.tup ((k.map S).map Pv.str)
  rw [List.map_map]; rfl
/-- the terms' names, as a form has them -/
theorem order_of {ts : List Tm} (h : ∀ t ∈ ts, TmL t) {K : List (List (List Nat))} (nd : K.Nodup) (pw : K.Pairwise (fun a b => a ≤ b)) (hm : ∀ k, k ∈ K ↔ k ∈ ts.map fun t => sortN t.2) :
    (formOf ts).flatMap (·.2) = (ofLen 2 K).flatten ++ (ofLen 1 K).flatten ∧ (∀ t ∈ formOf ts, t.2 ∈ K) ∧ ∀ k ∈ K, k.length ≤ degOf (formOf ts) ∧ k.length ≤ 2 := by
  obtain ⟨L, e1, p1, n1, m1⟩ := form_keys ts
  have pos : ∀ (us : List Tm), (∀ t ∈ us, TmL t) → ∀ k, 0 ≤ sumK us k ∧ (k ∈ us.map (fun t => sortN t.2) → 0 < sumK us k) := by
    intro us
    induction us with
    | nil => exact fun _ k => ⟨Int.le_refl _, fun h => absurd h List.not_mem_nil⟩
    | cons t us ih =>
      intro h k
      obtain ⟨a1, a2⟩ := ih (fun x hx => h x (List.mem_cons_of_mem _ hx)) k
      have h0 := (h t List.mem_cons_self).1
      show 0 ≤ (if sortN t.2 = k then t.1 else 0) + sumK us k ∧ (_ → 0 < (if sortN t.2 = k then t.1 else 0) + sumK us k)
      by_cases hk : sortN t.2 = k
      · rw [if_pos hk]
        exact ⟨by omega, fun _ => by omega⟩
      · rw [if_neg hk]
        refine ⟨by omega, fun hq => ?_⟩
        rw [List.map_cons] at hq
        rcases List.mem_cons.mp hq with hq | hq
        · exact absurd hq.symm hk
        · have := a2 hq; omega
  have mem : ∀ k, k ∈ L ↔ k ∈ K := fun k => by
    rw [m1, hm]
    constructor
    · intro hk
      obtain ⟨t, h1, h2⟩ := sumK_mem hk
      exact List.mem_map.mpr ⟨t, h1, h2⟩
    · intro hk
      have := (pos ts h k).2 hk
      omega
  have short : ∀ k ∈ K, k.length ≤ 2 := fun k hk => by
    obtain ⟨t, ht, rfl⟩ := List.mem_map.mp ((hm k).mp hk)
    rw [sortN_len]
    exact (h t ht).2.2.1
  have mo : ∀ n k, k ∈ ofLen n K ↔ k ∈ K ∧ k.length = n := fun n k => by
    unfold ofLen
    rw [List.mem_filter]
    simp
  have eq : L = ofLen 2 K ++ (ofLen 1 K ++ ofLen 0 K) := by
    have same : ∀ n, (ofLen n K).Pairwise (fun x y => kLe x y = true) := fun n => by
      have q : (ofLen n K).Pairwise (fun a b => a ≤ b) := List.Pairwise.filter _ pw
      refine List.Pairwise.imp_of_mem (fun {a b} ha hb hab => ?_) q
      have a1 := ((mo n a).mp ha).2
      have a2 := ((mo n b).mp hb).2
      exact decide_eq_true (.inr ⟨by omega, hab⟩)
    have less : ∀ m n, n < m → ∀ a ∈ ofLen m K, ∀ b ∈ ofLen n K, kLe a b = true := fun m n hmn a ha b hb => by
      have a1 := ((mo m a).mp ha).2
      have a2 := ((mo n b).mp hb).2
      exact decide_eq_true (.inl (by omega))
    have apart : ∀ m n, m ≠ n → ∀ a ∈ ofLen m K, ∀ b ∈ ofLen n K, a ≠ b := fun m n hmn a ha b hb e => by
      have a1 := ((mo m a).mp ha).2
      have a2 := ((mo n b).mp hb).2
      subst e; omega
    have ndo : ∀ n, (ofLen n K).Nodup := fun n => List.Nodup.sublist List.filter_sublist nd
    refine sorted_ext p1 ?_ n1 ?_ fun k => ?_
    · refine List.pairwise_append.mpr ⟨same 2, List.pairwise_append.mpr ⟨same 1, same 0, less 1 0 (by decide)⟩, fun a ha b hb => ?_⟩
      rcases List.mem_append.mp hb with hb | hb
      · exact less 2 1 (by decide) a ha b hb
      · exact less 2 0 (by decide) a ha b hb
    · refine List.nodup_append.mpr ⟨ndo 2, List.nodup_append.mpr ⟨ndo 1, ndo 0, apart 1 0 (by decide)⟩, fun a ha b hb => ?_⟩
      rcases List.mem_append.mp hb with hb | hb
      · exact apart 2 1 (by decide) a ha b hb
      · exact apart 2 0 (by decide) a ha b hb
    · rw [mem, List.mem_append, List.mem_append, mo, mo, mo]
      constructor
      · intro hk
        have := short k hk
        by_cases q2 : k.length = 2
        · exact .inl ⟨hk, q2⟩
        · by_cases q1 : k.length = 1
          · exact .inr (.inl ⟨hk, q1⟩)
          · exact .inr (.inr ⟨hk, by omega⟩)
      · rintro (q | q | q) <;> exact q.1
  refine ⟨?_, ?_, fun k hk => ⟨?_, short k hk⟩⟩
  · have z : (ofLen 0 K).flatten = [] := by
      rw [List.flatten_eq_nil_iff]
      intro k hk
      exact List.length_eq_zero_iff.mp ((mo 0 k).mp hk).2
    have : (formOf ts).flatMap (·.2) = L.flatten := by
      rw [e1, List.flatMap_def, List.map_map]
      congr 1
      exact List.map_id L
    rw [this, eq, List.flatten_append, List.flatten_append, z, List.append_nil]
  · intro t ht
    rw [e1] at ht
    obtain ⟨k, hk, rfl⟩ := List.mem_map.mp ht
    exact (mem k).mp hk
  · have hk' := (mem k).mpr hk
    rw [e1]
    cases hL : L with
    | nil => rw [hL] at hk'; cases hk'
    | cons k0 L0 =>
      show k.length ≤ k0.length
      rw [hL] at hk' p1
      rcases List.mem_cons.mp hk' with rfl | hk'
      · exact Nat.le_refl _
      · have := of_decide_eq_true ((List.pairwise_cons.mp p1).1 k hk')
        rcases this with q | q
        · omega
        · omega
theorem sorted_ok {ts : List Tm} (hl : ts.length ≤ 4) (h : ∀ t ∈ ts, TmL t) (cs : Cells) : m_law_sorted [.lst (ts.map tmV)] cs = .ok (.lst (strL ((formOf ts).flatMap (·.2)))) cs := by
  obtain ⟨K, hK, nd, pw, hm⟩ := srt_of (ts.map fun t => sortN t.2)
  obtain ⟨ho, _, hsh⟩ := order_of h nd pw hm
  have hKl : K.length ≤ 4 := by
    have : (K.map mS).length ≤ ((ts.map fun t => sortN t.2).map mS).length := by
      rw [← hK]
      unfold srtT
      rw [List.length_mergeSort]
      have : ∀ X : List (List Str), (onesT X).length ≤ X.length := by
        intro X
        induction X with
        | nil => exact Nat.le_refl _
        | cons x X ih =>
          rw [onesT, List.length_cons, List.length_cons]
          have := List.length_filter_le (fun y => decide (y ≠ x)) (onesT X)
          omega
      exact this _
    rw [List.length_map, List.length_map, List.length_map] at this
    omega
  have hsrc : fSortSetT (fLc (iAny (fVar 0)) (gT 2 (gsCons (gN 5) (gsCons (gN 4) gsNil))) fYes (fCall mTuple (fCons (fCall mSorted (fCons (fVar 4) fNil)) fNil)) [5, 4]) [some (.lst (ts.map tmV)), none, none, none, none, none] cs = .ok (.lst (K.map tupV)) cs := by
    have h1 : fLc (iAny (fVar 0)) (gT 2 (gsCons (gN 5) (gsCons (gN 4) gsNil))) fYes (fCall mTuple (fCons (fCall mSorted (fCons (fVar 4) fNil)) fNil)) [5, 4] [some (.lst (ts.map tmV)), none, none, none, none, none] cs = .ok (.lst (ts.map fun t => tupV (sortN t.2))) cs := by
      refine fLc_map (L := ts) (f := tmV) (h := fun t => tupV (sortN t.2)) ?_ (by omega) fun t ht => ?_
      · generalize ts.map tmV = M at *
        simp
      · have hs := sorted_names (ns := t.2) (by have := (h t ht).2.2.1; omega) cs
        have hmt : mTuple [.lst (strL (sortN t.2))] cs = .ok (tupV (sortN t.2)) cs := rfl
        unfold tmV
        generalize ts.map (fun t => Pv.tup [.int t.1, .lst (strL t.2)]) = M2 at *
        generalize tupV (sortN t.2) = TV at *
        generalize strL (sortN t.2) = SN at *
        generalize strL t.2 = NN at *
        simp [hs, hmt]
    rw [ap_sortSetT, h1]
    have e : (ts.map fun t => tupV (sortN t.2)) = ((ts.map fun t => sortN t.2).map mS).map tupT := by
      rw [← mapT, List.map_map]; rfl
    rw [e]
    have a : ∀ Y : List Pv, asL cs (.lst Y) = some Y := fun _ => rfl
    have hd : decide (((ts.map fun t => sortN t.2).map mS).length ≤ 4) = true := decide_eq_true (by rw [List.length_map, List.length_map]; omega)
    rw [mapT K]
    simp only [Res.bind_ok, a, txtsT_map, hd, guard_true, hK]
  have f0' : fits 0 = true := rfl
  have f2' : fits 2 = true := rfl
  obtain ⟨y4, e4⟩ := inner_ok (x0 := some (.lst (ts.map tmV))) (x1 := some (.lst (K.map tupV))) (x5 := none) (n := 2) (cs := cs) K [] none (fun k hk => (hsh k hk).2) (by simp; omega)
  have hb : ∀ n, (ofLen n K).flatten.length ≤ 8 := fun n => by
    have : ∀ X : List (List (List Nat)), (∀ k ∈ X, k.length ≤ 2) → X.flatten.length ≤ 2 * X.length := by
      intro X
      induction X with
      | nil => exact fun _ => Nat.le_refl _
      | cons x X ih =>
        intro hq
        have a1 := hq x List.mem_cons_self
        have a2 := ih fun k hk => hq k (List.mem_cons_of_mem _ hk)
        rw [List.flatten_cons, List.length_append, List.length_cons]; omega
    have a1 := this (ofLen n K) fun k hk => (hsh k (List.mem_filter.mp hk).1).2
    have a2 : (ofLen n K).length ≤ K.length := List.length_filter_le ..
    omega
  obtain ⟨z4, e5⟩ := inner_ok (x0 := some (.lst (ts.map tmV))) (x1 := some (.lst (K.map tupV))) (x5 := none) (n := 1) (cs := cs) K ([] ++ (ofLen 2 K).flatten) y4 (fun k hk => (hsh k hk).2) (by have := hb 2; rw [List.nil_append]; omega)
  rw [List.nil_append] at e4 e5
  rw [← ho] at e5
  show fnOut (body_law_sorted [some (.lst (ts.map tmV)), none, none, none, none, none] cs) = _
  have bd : body_law_sorted [some (.lst (ts.map tmV)), none, none, none, none, none] cs = .rt (.lst (strL ((formOf ts).flatMap (·.2)))) cs := by
    have e4 : forL (gTurn (gN 4) body_law_sorted_1) (K.map tupV) [some (.lst (ts.map tmV)), some (.lst (K.map tupV)), some (.lst []), some (.int 2), none, none] cs = .nx [some (.lst (ts.map tmV)), some (.lst (K.map tupV)), some (.lst (strL (ofLen 2 K).flatten)), some (.int 2), y4, none] cs := e4
    have e5 : forL (gTurn (gN 4) body_law_sorted_1) (K.map tupV) [some (.lst (ts.map tmV)), some (.lst (K.map tupV)), some (.lst (strL (ofLen 2 K).flatten)), some (.int 1), y4, none] cs = .nx [some (.lst (ts.map tmV)), some (.lst (K.map tupV)), some (.lst (strL ((formOf ts).flatMap (·.2)))), some (.int 1), z4, none] cs := e5
    generalize strL ((formOf ts).flatMap (·.2)) = R at *
    generalize strL (ofLen 2 K).flatten = R2 at *
    generalize ts.map tmV = TT at *
    generalize K.map tupV = KK at *
    unfold body_law_sorted
    refine sq (asg hsrc) (sq (sl1 := [some (.lst TT), some (.lst KK), some (.lst []), none, none, none]) (cs1 := cs) (asg ?_) (sq (sl1 := [some (.lst TT), some (.lst KK), some (.lst R), some (.int 1), z4, none]) (cs1 := cs) (forq (ps := [.int 2, .int 1]) (cs1 := cs) ?_ ?_) (retq (by simp only [ap_varS, ap_var0]))))
    · simp only [ap_lst, ap_nil, Res.bind_ok, List.length_nil, f0', guard_true]
    · rw [ap_iAny]
      simp only [ap_lst, ap_cons, ap_nil, ap_con, Res.bind_ok, List.length_cons, List.length_nil, Nat.zero_add, Nat.reduceAdd, f2', guard_true]
      rfl
    · show (body_law_sorted_2 [some (.lst TT), some (.lst KK), some (.lst []), some (.int 2), none, none] cs).turn _ = _
      have t1 : body_law_sorted_2 [some (.lst TT), some (.lst KK), some (.lst []), some (.int 2), none, none] cs = .nx [some (.lst TT), some (.lst KK), some (.lst R2), some (.int 2), y4, none] cs := forq (ps := KK) (cs1 := cs) rfl e4
      rw [t1]
      show (body_law_sorted_2 [some (.lst TT), some (.lst KK), some (.lst R2), some (.int 1), y4, none] cs).turn _ = _
      have t2 : body_law_sorted_2 [some (.lst TT), some (.lst KK), some (.lst R2), some (.int 1), y4, none] cs = .nx [some (.lst TT), some (.lst KK), some (.lst R), some (.int 1), z4, none] cs := forq (ps := KK) (cs1 := cs) rfl e5
      rw [t2]; rfl
  rw [bd]; rfl
end Lw
set_option Elab.async false
set_option linter.all false
set_option autoImplicit false
set_option maxRecDepth 100000
set_option maxHeartbeats 4000000
namespace Lw
open PySem AL PySem.W PyProof.Rows
theorem v_gtI (i j : Int) (cs : Cells) : oGt (.int i) (.int j) cs = .ok (.bl (decide (j < i))) cs := rfl
def bcW35 : List Nat := [98, 97, 100, 99, 111, 117, 110, 116]
def nmW35 : List Nat := [110, 97, 109, 101, 115]
def nnW35 : List Nat := [110, 111, 110, 117, 109, 98, 101, 114]
def dgW35 : List Nat := [100, 101, 103, 114, 101, 101]
def tdW35 : List Nat := [116, 111, 108, 100]
def dueV (ns : List (List Nat)) (f : List Tm) (d : Nat) : Pv :=
  if d = 2 ∧ 2 < ns.length then .tup [.str (S bcW35), .str (S nmW35), .int (ns.length : Int)]
  else match strange ns f with
    | some l => .tup [.str (S nnW35), .str (S l)]
    | none => if d < degOf f then .tup [.str (S bcW35), .str (S dgW35), .int (degOf f : Int)] else .tup [.str (S tdW35), .bl true]
section
variable {ns : List (List Nat)}
/-- the first strange name -/
theorem due_loop {x1 x2 x4 x5 x6 : Option Pv} {cs : Cells} : ∀ (k : List (List Nat)) (x3 : Option Pv), match k.find? (fun l => !decide (l ∈ ns)) with
    | some l => forL (gTurn (gN 3) body_law_due_1) (strL k) [some (.lst (strL ns)), x1, x2, x3, x4, x5, x6] cs = .rt (.tup [.str (S nnW35), .str (S l)]) cs
    | none => ∃ y3, forL (gTurn (gN 3) body_law_due_1) (strL k) [some (.lst (strL ns)), x1, x2, x3, x4, x5, x6] cs = .nx [some (.lst (strL ns)), x1, x2, y3, x4, x5, x6] cs
  | [], x3 => ⟨x3, rfl⟩
  | l :: k, x3 => by
    have f2' : fits 2 = true := rfl
    have hi := v_inL (neg := true) (cs := cs) (tk := .lst (strL ns)) (T := ns) rfl l
    by_cases h : l ∈ ns
    · have hd : (!decide (l ∈ ns)) = false := by simp [h]
      simp only [List.find?_cons, hd]
      have ih := due_loop (x1 := x1) (x2 := x2) (x4 := x4) (x5 := x5) (x6 := x6) (cs := cs) k (some (.str (S l)))
      have t1 : body_law_due_1 [some (.lst (strL ns)), x1, x2, some (.str (S l)), x4, x5, x6] cs = .nx [some (.lst (strL ns)), x1, x2, some (.str (S l)), x4, x5, x6] cs := by
        simp only [if_true, hd] at hi
        generalize strL ns = M at *
        generalize S l = SL at *
        unfold body_law_due_1
        refine iff_ (cs1 := cs) ?_ rfl
        simp only [ap_tst, ap_f2, ap_varS, ap_var0, Res.bind_ok, hi]
      have e : forL (gTurn (gN 3) body_law_due_1) (strL (l :: k)) [some (.lst (strL ns)), x1, x2, x3, x4, x5, x6] cs = forL (gTurn (gN 3) body_law_due_1) (strL k) [some (.lst (strL ns)), x1, x2, some (.str (S l)), x4, x5, x6] cs := by
        show (body_law_due_1 [some (.lst (strL ns)), x1, x2, some (.str (S l)), x4, x5, x6] cs).turn _ = _
        rw [t1]; rfl
      rw [e]
      exact ih
    · have hd : (!decide (l ∈ ns)) = true := by simp [h]
      simp only [List.find?_cons, hd]
      have t1 : body_law_due_1 [some (.lst (strL ns)), x1, x2, some (.str (S l)), x4, x5, x6] cs = .rt (.tup [.str (S nnW35), .str (S l)]) cs := by
        simp only [if_true, hd] at hi
        generalize strL ns = M at *
        generalize S l = SL at *
        unfold body_law_due_1
        refine ift (cs1 := cs) ?_ (retq ?_)
        · simp only [ap_tst, ap_f2, ap_varS, ap_var0, Res.bind_ok, hi]
        · simp only [ap_tup, ap_cons, ap_nil, ap_con, ap_varS, ap_var0, Res.bind_ok, List.length_cons, List.length_nil, Nat.zero_add, Nat.reduceAdd, f2', guard_true]
          rfl
      show (body_law_due_1 [some (.lst (strL ns)), x1, x2, some (.str (S l)), x4, x5, x6] cs).turn _ = _
      rw [t1]; rfl
theorem most_ok {ts : List Tm} (h : ∀ t ∈ ts, TmL t) : (ts.map fun t => (t.2.length : Int)).foldl max 0 = (degOf (formOf ts) : Int) := by
  obtain ⟨K, hK, nd, pw, hm⟩ := srt_of (ts.map fun t => sortN t.2)
  obtain ⟨_, hin, hsh⟩ := order_of h nd pw hm
  obtain ⟨m1, m2, m3⟩ := foldl_max_mem (ts.map fun t => (t.2.length : Int)) 0
  obtain ⟨M, hM⟩ : ∃ M, M = (ts.map fun t => (t.2.length : Int)).foldl max 0 := ⟨_, rfl⟩
  rw [← hM] at m1 m2 m3 ⊢
  have up : M ≤ (degOf (formOf ts) : Int) := by
    rcases m1 with e | e
    · omega
    · obtain ⟨t, ht, e⟩ := List.mem_map.mp e
      have := (hsh (sortN t.2) ((hm _).mpr (List.mem_map.mpr ⟨t, ht, rfl⟩))).1
      rw [sortN_len] at this
      omega
  have lo : (degOf (formOf ts) : Int) ≤ M := by
    cases hF : formOf ts with
    | nil => exact m2
    | cons t0 F =>
      show ((t0.2.length : Nat) : Int) ≤ M
      have := hin t0 (by rw [hF]; exact List.mem_cons_self)
      obtain ⟨t, ht, e⟩ := List.mem_map.mp ((hm _).mp this)
      have := m3 _ (List.mem_map.mpr ⟨t, ht, rfl⟩)
      rw [← e, sortN_len]
      exact this
  omega
theorem due_ok {ts : List Tm} (hns : ns.length ≤ 3) (hl : ts.length ≤ 4) (h : ∀ t ∈ ts, TmL t) {d : Nat} (hd : d = 1 ∨ d = 2) (cs : Cells) : m_law_due [.lst (strL ns), .lst (ts.map tmV), .int (d : Int)] cs = .ok (dueV ns (formOf ts) d) cs := by
  have f2' : fits 2 = true := rfl
  have f3' : fits 3 = true := rfl
  have f1' : fits 1 = true := rfl
  have hlen : mLen [.lst (strL ns)] cs = .ok (.int (ns.length : Int)) cs := by
    have : (strL ns).length = ns.length := List.length_map ..
    simp [mLen, asL, this]
  have q2 : oEqA (.int (d : Int)) (.int 2) cs = .ok (.bl (decide (d = 2))) cs := eqI2 d 2 cs
  have q3 : oEqA (.int (ns.length : Int)) (.int 3) cs = .ok (.bl (decide (ns.length = 3))) cs := eqI2 ns.length 3 cs
  have hs := sorted_ok hl h cs
  have fin : ∀ v, body_law_due [some (.lst (strL ns)), some (.lst (ts.map tmV)), some (.int (d : Int)), none, none, none, none] cs = .rt v cs → m_law_due [.lst (strL ns), .lst (ts.map tmV), .int (d : Int)] cs = .ok v cs := fun v q => by
    show fnOut (body_law_due [some (.lst (strL ns)), some (.lst (ts.map tmV)), some (.int (d : Int)), none, none, none, none] cs) = _
    rw [q]; rfl
  refine fin _ ?_
  unfold dueV
  by_cases c1 : d = 2 ∧ 2 < ns.length
  · rw [if_pos c1]
    have c3 : ns.length = 3 := by omega
    rw [decide_eq_true c1.1] at q2
    rw [decide_eq_true c3] at q3
    rw [c3]
    generalize strL ns = M at *
    generalize ts.map tmV = TT at *
    unfold body_law_due
    refine sqr (ift (cs1 := cs) ?_ (retq ?_))
    · simp only [ap_and, ap_tst, ap_f2, ap_call, ap_cons, ap_nil, ap_varS, ap_var0, ap_con, Res.bind_ok, q2, if_true, hlen, q3]
    · simp only [ap_tup, ap_cons, ap_nil, ap_con, ap_varS, ap_var0, Res.bind_ok, List.length_cons, List.length_nil, Nat.zero_add, Nat.reduceAdd, f3', guard_true]
      rfl
  rw [if_neg c1]
  have hif : sIf (fAnd (fTst (f2 oEqA (fVar 2) (fCon (.int 2)))) (fTst (f2 oEqA (fCall mLen (fCons (fVar 0) fNil)) (fCon (.int 3))))) (sRet (fTup (fCons (fCon (.str (S [98, 97, 100, 99, 111, 117, 110, 116]))) (fCons (fCon (.str (S [110, 97, 109, 101, 115]))) (fCons (fCon (.int 3)) fNil))))) sPass [some (.lst (strL ns)), some (.lst (ts.map tmV)), some (.int (d : Int)), none, none, none, none] cs = .nx [some (.lst (strL ns)), some (.lst (ts.map tmV)), some (.int (d : Int)), none, none, none, none] cs := by
    refine iff_ (cs1 := cs) ?_ rfl
    by_cases c2 : d = 2
    · rw [decide_eq_true c2] at q2
      rw [decide_eq_false (show ¬ ns.length = 3 by omega)] at q3
      generalize strL ns = M at *
      simp only [ap_and, ap_tst, ap_f2, ap_call, ap_cons, ap_nil, ap_varS, ap_var0, ap_con, Res.bind_ok, q2, if_true, hlen, q3]
    · rw [decide_eq_false c2] at q2
      simp only [ap_and, ap_tst, ap_f2, ap_call, ap_cons, ap_nil, ap_varS, ap_var0, ap_con, Res.bind_ok, q2, Bool.false_eq_true, if_false]
  have hlp := due_loop (ns := ns) (x1 := some (.lst (ts.map tmV))) (x2 := some (.int (d : Int))) (x4 := none) (x5 := none) (x6 := none) (cs := cs) ((formOf ts).flatMap (·.2)) none
  have hsrc : iAny (fCall m_law_sorted (fCons (fVar 1) fNil)) [some (.lst (strL ns)), some (.lst (ts.map tmV)), some (.int (d : Int)), none, none, none, none] cs = .ok (.fz (strL ((formOf ts).flatMap (·.2)))) cs := by
    generalize strL ((formOf ts).flatMap (·.2)) = R at *
    generalize ts.map tmV = TT at *
    rw [ap_iAny]
    simp only [ap_call, ap_cons, ap_nil, ap_varS, ap_var0, Res.bind_ok, hs]
    rfl
  unfold strange
  cases hf : ((formOf ts).flatMap (·.2)).find? (fun l => !decide (l ∈ ns)) with
  | some l =>
    rw [hf] at hlp
    unfold body_law_due
    exact sq hif (sqr (forq hsrc hlp))
  | none =>
    rw [hf] at hlp
    obtain ⟨y3, e⟩ := hlp
    have hc : fLc (iAny (fVar 1)) (gT 2 (gsCons (gN 5) (gsCons (gN 6) gsNil))) fYes (fCall mLen (fCons (fVar 6) fNil)) [5, 6] [some (.lst (strL ns)), some (.lst (ts.map tmV)), some (.int (d : Int)), y3, none, none, none] cs = .ok (.lst (ts.map fun t => Pv.int (t.2.length : Int))) cs := by
      refine fLc_map (L := ts) (f := tmV) (h := fun t => Pv.int (t.2.length : Int)) ?_ (by omega) fun t ht => ?_
      · generalize ts.map tmV = TT at *
        simp
      · have hl2 : (strL t.2).length = t.2.length := List.length_map ..
        generalize ts.map tmV = TT at *
        generalize strL ns = M at *
        unfold tmV
        generalize strL t.2 = N at *
        simp [hl2]
    have hmx : mMaxL [.lst (Pv.int 0 :: ts.map fun t => Pv.int (t.2.length : Int))] cs = .ok (.int (degOf (formOf ts) : Int)) cs := by
      have e1 : (Pv.int 0 :: ts.map fun t => Pv.int (t.2.length : Int)) = ((0 : Int) :: ts.map fun t => (t.2.length : Int)).map Pv.int := by
        rw [List.map_cons, List.map_map]; rfl
      rw [e1, ap_maxL]
      show (match intsOf (((0 : Int) :: ts.map fun t => (t.2.length : Int)).map Pv.int) with | some (n :: ns) => Res.ok (Pv.int (ns.foldl max n)) cs | _ => .bad) = _
      rw [intsOf_map]
      show Res.ok (Pv.int ((ts.map fun t => (t.2.length : Int)).foldl max 0)) cs = _
      rw [most_ok h]
    have hfit : fits (1 + (ts.map fun t => Pv.int (t.2.length : Int)).length) = true := fits_ok (by rw [List.length_map]; omega)
    have hgt : oGt (.int (degOf (formOf ts) : Int)) (.int (d : Int)) cs = .ok (.bl (decide (d < degOf (formOf ts)))) cs := by
      rw [v_gtI]
      congr 2
      exact decide_eq_decide.mpr (by omega)
    have hasg : sAsg 4 (fCall mMaxL (fCons (f2 oAdd (fLst (fCons (fCon (.int 0)) fNil)) (fLc (iAny (fVar 1)) (gT 2 (gsCons (gN 5) (gsCons (gN 6) gsNil))) fYes (fCall mLen (fCons (fVar 6) fNil)) [5, 6])) fNil)) [some (.lst (strL ns)), some (.lst (ts.map tmV)), some (.int (d : Int)), y3, none, none, none] cs = .nx [some (.lst (strL ns)), some (.lst (ts.map tmV)), some (.int (d : Int)), y3, some (.int (degOf (formOf ts) : Int)), none, none] cs := by
      refine asg ?_
      generalize hQ : (ts.map fun t => Pv.int (t.2.length : Int)) = Q at *
      generalize strL ns = M at *
      generalize ts.map tmV = TT at *
      have hcat : oAdd (.lst [.int 0]) (.lst Q) cs = .ok (.lst (Pv.int 0 :: Q)) cs := by
        rw [v_addL]
        show guard_ (fits (1 + Q.length)) _ = _
        rw [hfit]; rfl
      simp only [ap_call, ap_cons, ap_nil, ap_f2, ap_lst, ap_con, Res.bind_ok, List.length_cons, List.length_nil, Nat.zero_add, f1', guard_true, hc, hcat, hmx]
    by_cases c4 : d < degOf (formOf ts)
    · show _ = RS.rt (if d < degOf (formOf ts) then _ else _) cs
      rw [if_pos c4]
      rw [decide_eq_true c4] at hgt
      unfold body_law_due
      refine sq hif (sq (forq hsrc e) (sq hasg (sqr (ift (cs1 := cs) ?_ (retq ?_)))))
      · simp only [ap_tst, ap_f2, ap_varS, ap_var0, Res.bind_ok, hgt]
      · simp only [ap_tup, ap_cons, ap_nil, ap_con, ap_varS, ap_var0, Res.bind_ok, List.length_cons, List.length_nil, Nat.zero_add, Nat.reduceAdd, f3', guard_true]
        rfl
    · show _ = RS.rt (if d < degOf (formOf ts) then _ else _) cs
      rw [if_neg c4]
      rw [decide_eq_false c4] at hgt
      unfold body_law_due
      refine sq hif (sq (forq hsrc e) (sq hasg (sq (iff_ (cs1 := cs) ?_ rfl) (retq ?_))))
      · simp only [ap_tst, ap_f2, ap_varS, ap_var0, Res.bind_ok, hgt]
      · simp only [ap_tup, ap_cons, ap_nil, ap_con, ap_varS, ap_var0, Res.bind_ok, List.length_cons, List.length_nil, Nat.zero_add, Nat.reduceAdd, f2', guard_true]
        rfl
theorem found_ok {ts : List Tm} (hns : ns.length ≤ 3) (hl : ts.length ≤ 4) {d : Nat} (hd : d = 1 ∨ d = 2) (cs : Cells) : m_law_found [progV ns, formV (formOf ts), .int (d : Int)] cs = .ok (dueV ns (formOf ts) d) cs := by
  have f2' : fits 2 = true := rfl
  have f3' : fits 3 = true := rfl
  have hr := row_ok (ns := ns) (ts := ts) hd (by omega) (by omega) cs
  show fnOut (body_law_found [some (progV ns), some (formV (formOf ts)), some (.int (d : Int)), none, none] cs) = _
  have fin : body_law_found [some (progV ns), some (formV (formOf ts)), some (.int (d : Int)), none, none] cs = .rt (dueV ns (formOf ts) d) cs := by
    unfold dueV
    generalize progV ns = PV at *
    generalize hFV : formV (formOf ts) = FV at *
    unfold body_law_found
    refine sq (sl1 := [some PV, some FV, some (.int (d : Int)), some .non, none]) (cs1 := cs) (asg rfl) ?_
    by_cases c1 : d = 2 ∧ 2 < ns.length
    · rw [if_pos c1] at hr ⊢
      refine sq (sl1 := [some PV, some FV, some (.int (d : Int)), some (.tup [.str (S bcW35), .str (S nmW35), .int (ns.length : Int)]), none]) (cs1 := cs) ?_ (retq rfl)
      rw [ap_tryM]
      simp only [ap_asg, ap_tup, ap_cons, ap_nil, ap_con, ap_call, ap_varS, ap_var0, Res.bind_ok, hr, Res.bind_exn, Res.go_exn]
      rfl
    · rw [if_neg c1] at hr ⊢
      cases hf : strange ns (formOf ts) with
      | some l =>
        rw [hf] at hr
        refine sq (sl1 := [some PV, some FV, some (.int (d : Int)), some (.tup [.str (S nnW35), .str (S l)]), none]) (cs1 := cs) ?_ (retq rfl)
        rw [ap_tryM]
        simp only [ap_asg, ap_tup, ap_cons, ap_nil, ap_con, ap_call, ap_varS, ap_var0, Res.bind_ok, hr, Res.bind_exn, Res.go_exn]
        rfl
      | none =>
        rw [hf] at hr
        by_cases c2 : d < degOf (formOf ts)
        · simp only [if_pos c2] at hr ⊢
          refine sq (sl1 := [some PV, some FV, some (.int (d : Int)), some (.tup [.str (S bcW35), .str (S dgW35), .int (degOf (formOf ts) : Int)]), none]) (cs1 := cs) ?_ (retq rfl)
          rw [ap_tryM]
          simp only [ap_asg, ap_tup, ap_cons, ap_nil, ap_con, ap_call, ap_varS, ap_var0, Res.bind_ok, hr, Res.bind_exn, Res.go_exn]
          rfl
        · simp only [if_neg c2] at hr ⊢
          refine sq (sl1 := [some PV, some FV, some (.int (d : Int)), some (.tup [.str (S tdW35), .bl true]), none]) (cs1 := cs) ?_ (retq rfl)
          generalize ((colsOf ns d).map fun c => sumK ts (sortN c)).map Pv.int = RW at *
          have hi : mIsB [.tup RW, .ty "tuple"] cs = .ok (.bl true) cs := rfl
          rw [ap_tryM]
          simp only [ap_asg, ap_tup, ap_cons, ap_nil, ap_con, ap_call, ap_varS, ap_var0, Res.bind_ok, hr, hi, List.length_cons, List.length_nil, Nat.zero_add, Nat.reduceAdd, f2', guard_true, Res.go_ok]
          rfl
  rw [fin]; rfl
theorem same_due {ts : List Tm} (h : ∀ t ∈ ts, TmL t) (d : Nat) (cs : Cells) : oNeA (dueV ns (formOf ts) d) (dueV ns (formOf ts) d) cs = .ok (.bl false) cs := by
  have key : ∃ (xs : List Pv) (ds : List PyData), dueV ns (formOf ts) d = .tup xs ∧ toPy (.tup xs) = some (.tuple ds) ∧ ∀ e ∈ ds, Shp 1 e := by
    have sg : ∀ w : List Nat, (∀ c ∈ w, c < 1114112) → Shp 1 (.str (S w)) := fun w hw => Shp.str hw
    have p3 : ∀ (a b : List Nat) (i : Int), (∀ c ∈ a, c < 1114112) → (∀ c ∈ b, c < 1114112) → ∃ ds, toPy (.tup [.str (S a), .str (S b), .int i]) = some (.tuple ds) ∧ ∀ e ∈ ds, Shp 1 e := fun a b i ha hb => by
      refine ⟨[.str (S a), .str (S b), .int i], by simp [toPy, toPys], fun e he => ?_⟩
      rcases List.mem_cons.mp he with rfl | he
      · exact sg _ ha
      · rcases List.mem_cons.mp he with rfl | he
        · exact sg _ hb
        · rw [List.mem_singleton.mp he]; exact Shp.int _
    unfold dueV
    split
    · obtain ⟨ds, e1, e2⟩ := p3 bcW35 nmW35 (ns.length : Int) (by decide) (by decide)
      exact ⟨_, ds, rfl, e1, e2⟩
    · split
      · rename_i l hl
        have hm := List.mem_of_find?_eq_some hl
        obtain ⟨t, ht, hlt⟩ := List.mem_flatMap.mp hm
        obtain ⟨_, _, u, hu, e⟩ := form_mem ht
        rw [← e] at hlt
        have hn := (h u hu).2.2.2 l (sortN_mem.mp hlt)
        refine ⟨_, [.str (S nnW35), .str (S l)], rfl, by simp [toPy, toPys], fun e he => ?_⟩
        rcases List.mem_cons.mp he with rfl | he
        · exact sg _ (by decide)
        · rw [List.mem_singleton.mp he]; exact sg _ (isName_sg hn)
      · split
        · obtain ⟨ds, e1, e2⟩ := p3 bcW35 dgW35 (degOf (formOf ts) : Int) (by decide) (by decide)
          exact ⟨_, ds, rfl, e1, e2⟩
        · refine ⟨_, [.str (S tdW35), .bool true], rfl, by simp [toPy, toPys], fun e he => ?_⟩
          rcases List.mem_cons.mp he with rfl | he
          · exact sg _ (by decide)
          · rw [List.mem_singleton.mp he]; exact Shp.bool _
  obtain ⟨xs, ds, e1, e2, e3⟩ := key
  rw [e1]
  show eqD true (.tup xs) (.tup xs) cs = _
  exact v_eqSame (neg := true) (d := .tuple ds) e2 e2 (Shp.tuple (n := 1) e3).shaped
end
/-- one number of the script -/
theorem turn_ok {z : Int} (hz : Builtin.Int.intBits z ≤ 1048576) (x0 x2 x3 x4 x5 x6 x7 x8 : Option Pv) (cs : Cells) :
    ∃ (y2 y3 y4 y5 y6 y7 y8 : Option Pv) (cs' : Cells), body_law_1 [x0, some (.int z), x2, x3, x4, x5, x6, x7, x8] cs = .nx [x0, some (.int z), y2, y3, y4, y5, y6, y7, y8] cs' := by
  have f1' : fits 1 = true := rfl
  have f2' : fits 2 = true := rfl
  have f0' : fits 0 = true := rfl
  obtain ⟨c1, e1, g1, _, _⟩ := state_gs cs z hz
  obtain ⟨u, c2, e2, u0, u1, r2⟩ := digit_ok g1 (n := 3) (by decide) (by decide)
  have g2 := g1.dr r2
  obtain ⟨N, hN, hN1, hN3⟩ : ∃ N : Nat, 1 + u = (N : Int) ∧ 1 ≤ N ∧ N ≤ 3 := ⟨(1 + u).toNat, by omega, by omega, by omega⟩
  obtain ⟨ns, c3, e3, nl, nd, nn, r3⟩ := names_draw g2 (n := N) (by omega)
  have g3 := g2.dr r3
  obtain ⟨v, c4, e4, v0, v1, r4⟩ := digit_ok g3 (n := 2) (by decide) (by decide)
  have g4 := g3.dr r4
  obtain ⟨d, hdv, hd⟩ : ∃ d : Nat, 1 + v = (d : Int) ∧ (d = 1 ∨ d = 2) := ⟨(1 + v).toNat, by omega, by omega⟩
  have hne : ns ≠ [] := fun e => by rw [e] at nl; simp at nl; omega
  obtain ⟨ts, c5, e5, tl, ht, r5⟩ := terms_drawn hne (by omega) nn g4
  have hbody := body_made c5
  have hprog := prog_ok (by omega) (by omega) nd nn c5
  have hfr : firstRf ts = none := firstRf_none fun t h => ⟨(ht t h).2.2.1, (ht t h).2.2.2⟩
  have hform := form_ok (ts := ts) ⟨by omega, fun t h => ⟨by have := (ht t h).2.2.1; omega, fun l hl => by have := name_len ((ht t h).2.2.2 l hl); omega⟩⟩ c5
  rw [hfr] at hform
  have hform : mk_Form [.lst (ts.map tmV)] c5 = .ok (formV (formOf ts)) c5 := hform
  have hdue := due_ok (ns := ns) (by omega) tl ht hd c5
  have hfound := found_ok (ns := ns) (ts := ts) (by omega) tl hd c5
  have hsame := same_due (ns := ns) ht d c5
  have hml : S [109, 97, 105, 110] = S mainL := rfl
  refine ⟨some (.ref cs.length), some (.lst (strL ns)), some (.int (d : Int)), some (.lst (ts.map tmV)), some (progV ns), some (formV (formOf ts)), some (dueV ns (formOf ts) d), c5, ?_⟩
  generalize dueV ns (formOf ts) d = DV at *
  generalize progV ns = PV at *
  generalize formV (formOf ts) = FV at *
  generalize ts.map tmV = TT at *
  generalize strL ns = NS at *
  generalize hB : bodyE = B at *
  unfold body_law_1
  refine sq (sl1 := [x0, some (.int z), some (.ref cs.length), x3, x4, x5, x6, x7, x8]) (cs1 := c1) (asg ?_) ?_
  · simp only [ap_call, ap_cons, ap_nil, ap_varS, ap_var0, Res.bind_ok, e1]
  refine sq (sl1 := [x0, some (.int z), some (.ref cs.length), some (.lst NS), x4, x5, x6, x7, x8]) (cs1 := c3) (asg ?_) ?_
  · simp only [ap_call, ap_cons, ap_nil, ap_f2, ap_varS, ap_var0, ap_con, Res.bind_ok, e2, v_addI, hN, e3]
  refine sq (sl1 := [x0, some (.int z), some (.ref cs.length), some (.lst NS), some (.int (d : Int)), x5, x6, x7, x8]) (cs1 := c4) (asg ?_) ?_
  · simp only [ap_call, ap_cons, ap_nil, ap_f2, ap_varS, ap_var0, ap_con, Res.bind_ok, e4, v_addI, hdv]
  refine sq (sl1 := [x0, some (.int z), some (.ref cs.length), some (.lst NS), some (.int (d : Int)), some (.lst TT), x6, x7, x8]) (cs1 := c5) (asg ?_) ?_
  · simp only [ap_call, ap_cons, ap_nil, ap_varS, ap_var0, Res.bind_ok, e5]
  refine sq (sl1 := [x0, some (.int z), some (.ref cs.length), some (.lst NS), some (.int (d : Int)), some (.lst TT), some PV, x7, x8]) (cs1 := c5) (asg ?_) ?_
  · simp only [ap_call, ap_cons, ap_nil, ap_lst, ap_tup, ap_varS, ap_var0, ap_con, Res.bind_ok, List.length_cons, List.length_nil, Nat.zero_add, Nat.reduceAdd, f0', f1', f2', guard_true, hbody, hml, hprog]
  refine sq (sl1 := [x0, some (.int z), some (.ref cs.length), some (.lst NS), some (.int (d : Int)), some (.lst TT), some PV, some FV, x8]) (cs1 := c5) (asg ?_) ?_
  · simp only [ap_call, ap_cons, ap_nil, ap_varS, ap_var0, Res.bind_ok, hform]
  refine sq (sl1 := [x0, some (.int z), some (.ref cs.length), some (.lst NS), some (.int (d : Int)), some (.lst TT), some PV, some FV, some DV]) (cs1 := c5) (asg ?_) ?_
  · simp only [ap_call, ap_cons, ap_nil, ap_varS, ap_var0, Res.bind_ok, hdue]
  refine iff_ (cs1 := c5) ?_ rfl
  simp only [ap_or, ap_tst, ap_f2, ap_call, ap_cons, ap_nil, ap_varS, ap_var0, Res.bind_ok, hfound, hsame, Bool.false_eq_true, if_false]
theorem loop_ok {x0 : Option Pv} : ∀ (zz : List Int) (x1 x2 x3 x4 x5 x6 x7 x8 : Option Pv) (cs : Cells), (∀ z ∈ zz, Builtin.Int.intBits z ≤ 1048576) →
    ∃ (y1 y2 y3 y4 y5 y6 y7 y8 : Option Pv) (cs' : Cells), forL (gTurn (gN 1) body_law_1) (zz.map Pv.int) [x0, x1, x2, x3, x4, x5, x6, x7, x8] cs = .nx [x0, y1, y2, y3, y4, y5, y6, y7, y8] cs'
  | [], x1, x2, x3, x4, x5, x6, x7, x8, cs, _ => ⟨x1, x2, x3, x4, x5, x6, x7, x8, cs, rfl⟩
  | z :: zz, x1, x2, x3, x4, x5, x6, x7, x8, cs, h => by
    obtain ⟨y2, y3, y4, y5, y6, y7, y8, c1, e1⟩ := turn_ok (h z List.mem_cons_self) x0 x2 x3 x4 x5 x6 x7 x8 cs
    obtain ⟨v1, v2, v3, v4, v5, v6, v7, v8, c2, e2⟩ := loop_ok (x0 := x0) zz (some (.int z)) y2 y3 y4 y5 y6 y7 y8 c1 fun q hq => h q (List.mem_cons_of_mem _ hq)
    refine ⟨v1, v2, v3, v4, v5, v6, v7, v8, c2, ?_⟩
    rw [List.map_cons]
    show (body_law_1 [x0, some (.int z), x2, x3, x4, x5, x6, x7, x8] cs).turn _ = _
    rw [e1]
    exact e2
theorem lawT : ∀ ns : List Int, ns.length ≤ 63 → (∀ z ∈ ns, Builtin.Int.intBits z ≤ 1048576) → ∃ cs, m_law [.lst (ns.map Pv.int)] [] = .ok (.bl true) cs := by
  intro sc hl hb
  have f1' : fits 1 = true := rfl
  obtain ⟨zz, hzz, hcut⟩ : ∃ zz : List Int, (∀ z ∈ zz, Builtin.Int.intBits z ≤ 1048576) ∧ cut (sc.map Pv.int ++ [.int 0]) none (some 10) = zz.map Pv.int := by
    refine ⟨cut (sc ++ [0]) none (some 10), fun z hz => ?_, ?_⟩
    · unfold cut at hz
      have := List.mem_of_mem_drop (List.mem_of_mem_take hz)
      rcases List.mem_append.mp this with h | h
      · exact hb z h
      · rw [List.mem_singleton.mp h]; decide
    · have : sc.map Pv.int ++ [.int 0] = (sc ++ [0]).map Pv.int := by rw [List.map_append]; rfl
      rw [this]
      unfold cut
      rw [List.length_map, ← List.map_drop, ← List.map_take]
  obtain ⟨y1, y2, y3, y4, y5, y6, y7, y8, c2, e2⟩ := loop_ok (x0 := some (.lst (sc.map Pv.int))) zz none none none none none none none none [] hzz
  refine ⟨c2, ?_⟩
  show fnOut (body_law [some (.lst (sc.map Pv.int)), none, none, none, none, none, none, none, none] []) = _
  have fz : fits ((sc.map Pv.int).length + 1) = true := fits_ok (by rw [List.length_map]; omega)
  have hadd : oAdd (.lst (sc.map Pv.int)) (.lst [.int 0]) [] = .ok (.lst (sc.map Pv.int ++ [.int 0])) [] := by
    rw [v_addL]
    show guard_ (fits ((sc.map Pv.int).length + 1)) _ = _
    rw [fz]; rfl
  have bd : body_law [some (.lst (sc.map Pv.int)), none, none, none, none, none, none, none, none] [] = .rt (.bl true) c2 := by
    unfold body_law
    refine sq (forq (ps := zz.map Pv.int) (cs1 := []) ?_ e2) (retq rfl)
    generalize hZ : zz.map Pv.int = ZZ at *
    generalize hW : sc.map Pv.int = W at *
    rw [ap_iAny]
    simp only [ap_f2, ap_lst, ap_slc, ap_part, ap_noPart, ap_cons, ap_nil, ap_varS, ap_var0, ap_con, Res.bind_ok, List.length_cons, List.length_nil, Nat.zero_add, f1', guard_true, hadd, v_slcL, hcut]
    rfl
  rw [bd]; rfl
end Lw
set_option Elab.async false
set_option linter.all false
set_option autoImplicit false
set_option maxRecDepth 100000
set_option maxHeartbeats 0
namespace Lw
open PySem PySem.Spec PyProof.Rows L2 AL
theorem facts {P : Program} {w : World} {K : PySem.W.Frag} {h : Heap} {mg : Str → Option Value} {fa : Addr} (X : K.In h) (G : h.Ns mainGlobals mg) (hfa : mg "law" = some (.ref fa)) (sd : He.SaysD [] ddL K) (ek : exK K = true) :
    ∃ fd : FuncData, (∀ (s : Shared) (v : Value), BindsTo s fd ⟨[v], []⟩ [("_law_script", v)]) ∧ ∀ base : Heap, K.In base → base.Ns mainGlobals mg → (∀ p ∈ tabsC K, LamX.TabB base mg p.1 p.2) → FnOk P w K mg base (L2.CX P w) 16 fa fd ["_law_script"] (spLaw K) := by
  obtain ⟨fd0, FD0⟩ := sd.def_ 0 (d := dd0) rfl
  obtain ⟨_, _, _, _, _, _, _, _, _, l0, c0, k0⟩ := lk_of FD0
  obtain ⟨fd1, FD1⟩ := sd.def_ 1 (d := dd1) rfl
  obtain ⟨_, _, _, _, _, _, _, _, _, l1, c1, k1⟩ := lk_of FD1
  obtain ⟨fd2, FD2⟩ := sd.def_ 2 (d := dd2) rfl
  obtain ⟨_, _, _, _, _, _, _, _, _, l2, c2, k2⟩ := lk_of FD2
  obtain ⟨fd3, FD3⟩ := sd.def_ 3 (d := dd3) rfl
  obtain ⟨_, _, _, _, _, _, _, _, _, l3, c3, k3⟩ := lk_of FD3
  obtain ⟨fd4, FD4⟩ := sd.def_ 4 (d := dd4) rfl
  obtain ⟨_, _, _, _, _, _, _, _, _, l4, c4, k4⟩ := lk_of FD4
  obtain ⟨fd5, FD5⟩ := sd.def_ 5 (d := dd5) rfl
  obtain ⟨_, _, _, _, _, _, _, _, _, l5, c5, k5⟩ := lk_of FD5
  obtain ⟨fd6, FD6⟩ := sd.def_ 6 (d := dd6) rfl
  obtain ⟨_, _, _, _, _, _, _, _, _, l6, c6, k6⟩ := lk_of FD6
  obtain ⟨fd7, FD7⟩ := sd.def_ 7 (d := dd7) rfl
  obtain ⟨_, _, _, _, _, _, _, _, _, l7, c7, k7⟩ := lk_of FD7
  obtain ⟨fd8, FD8⟩ := sd.def_ 8 (d := dd8) rfl
  obtain ⟨_, _, _, _, _, _, _, _, _, l8, c8, k8⟩ := lk_of FD8
  obtain ⟨fd9, FD9⟩ := sd.def_ 9 (d := dd9) rfl
  obtain ⟨_, _, _, _, _, _, _, _, _, l9, c9, k9⟩ := lk_of FD9
  obtain ⟨fd10, FD10⟩ := sd.def_ 10 (d := dd10) rfl
  obtain ⟨_, _, _, _, _, _, _, _, _, l10, c10, k10⟩ := lk_of FD10
  obtain ⟨fd11, FD11⟩ := sd.def_ 11 (d := dd11) rfl
  obtain ⟨_, _, _, _, _, _, _, _, _, l11, c11, k11⟩ := lk_of FD11
  obtain ⟨fd12, FD12⟩ := sd.def_ 12 (d := dd12) rfl
  obtain ⟨_, _, _, _, _, _, _, _, _, l12, c12, k12⟩ := lk_of FD12
  obtain ⟨fd13, FD13⟩ := sd.def_ 13 (d := dd13) rfl
  obtain ⟨_, _, _, _, _, _, _, _, _, l13, c13, k13⟩ := lk_of FD13
  obtain ⟨fd14, FD14⟩ := sd.def_ 14 (d := dd14) rfl
  obtain ⟨_, _, _, _, _, _, _, _, _, l14, c14, k14⟩ := lk_of FD14
  obtain ⟨fd15, FD15⟩ := sd.def_ 15 (d := dd15) rfl
  obtain ⟨_, _, _, _, _, _, _, _, _, l15, c15, k15⟩ := lk_of FD15
  obtain ⟨fd16, FD16⟩ := sd.def_ 16 (d := dd16) rfl
  obtain ⟨_, _, _, _, _, _, _, _, _, l16, c16, k16⟩ := lk_of FD16
  obtain ⟨fd17, FD17⟩ := sd.def_ 17 (d := dd17) rfl
  obtain ⟨_, _, _, _, _, _, _, _, _, l17, c17, k17⟩ := lk_of FD17
  obtain ⟨fd18, FD18⟩ := sd.def_ 18 (d := dd18) rfl
  obtain ⟨_, _, _, _, _, _, _, _, _, l18, c18, k18⟩ := lk_of FD18
  obtain ⟨fd19, FD19⟩ := sd.def_ 19 (d := dd19) rfl
  obtain ⟨_, _, _, _, _, _, _, _, _, l19, c19, k19⟩ := lk_of FD19
  obtain ⟨fd20, FD20⟩ := sd.def_ 20 (d := dd20) rfl
  obtain ⟨_, _, _, _, _, _, _, _, _, l20, c20, k20⟩ := lk_of FD20
  obtain ⟨fd21, FD21⟩ := sd.def_ 21 (d := dd21) rfl
  obtain ⟨_, _, _, _, _, _, _, _, _, l21, c21, k21⟩ := lk_of FD21
  obtain ⟨fd22, FD22⟩ := sd.def_ 22 (d := dd22) rfl
  obtain ⟨_, _, _, _, _, _, _, _, _, l22, c22, k22⟩ := lk_of FD22
  obtain ⟨fd23, FD23⟩ := sd.def_ 23 (d := dd23) rfl
  obtain ⟨_, _, _, _, _, _, _, _, _, l23, c23, k23⟩ := lk_of FD23
  obtain ⟨fd24, FD24⟩ := sd.def_ 24 (d := dd24) rfl
  obtain ⟨_, _, _, _, _, _, _, _, _, l24, c24, k24⟩ := lk_of FD24
  obtain ⟨fd25, FD25⟩ := sd.def_ 25 (d := dd25) rfl
  obtain ⟨_, _, _, _, _, _, _, _, _, l25, c25, k25⟩ := lk_of FD25
  obtain ⟨fd26, FD26⟩ := sd.def_ 26 (d := dd26) rfl
  obtain ⟨_, _, _, _, _, _, _, _, _, l26, c26, k26⟩ := lk_of FD26
  obtain ⟨fd27, FD27⟩ := sd.def_ 27 (d := dd27) rfl
  obtain ⟨_, _, _, _, _, _, _, _, _, l27, c27, k27⟩ := lk_of FD27
  obtain ⟨fd28, FD28⟩ := sd.def_ 28 (d := dd28) rfl
  obtain ⟨_, _, _, _, _, _, _, _, _, l28, c28, k28⟩ := lk_of FD28
  obtain ⟨fd29, FD29⟩ := sd.def_ 29 (d := dd29) rfl
  obtain ⟨_, _, _, _, _, _, _, _, _, l29, c29, k29⟩ := lk_of FD29
  obtain ⟨fd30, FD30⟩ := sd.def_ 30 (d := dd30) rfl
  obtain ⟨_, _, _, _, _, _, _, _, _, l30, c30, k30⟩ := lk_of FD30
  obtain ⟨fd31, FD31⟩ := sd.def_ 31 (d := dd31) rfl
  obtain ⟨_, _, _, _, _, _, _, _, _, l31, c31, k31⟩ := lk_of FD31
  obtain ⟨fd32, FD32⟩ := sd.def_ 32 (d := dd32) rfl
  obtain ⟨_, _, _, _, _, _, _, _, _, l32, c32, k32⟩ := lk_of FD32
  obtain ⟨fd33, FD33⟩ := sd.def_ 33 (d := dd33) rfl
  obtain ⟨_, _, _, _, _, _, _, _, _, l33, c33, k33⟩ := lk_of FD33
  have ek0 := ek
  obtain ⟨h_a_law_state, h_a_law_digit, h_a_law_name, h_a_law_names, h_a_law_terms, h_a_law_sorted, h_a_law_due, h_a_asked_degree, h_n_Program_names, h_a_asked_names_of, h_a_products, h_a_columns⟩ : okP0 K (He.ga K "_law_state") (He.ga K "_law_digit") (He.ga K "_law_name") (He.ga K "_law_names") (He.ga K "_law_terms") (He.ga K "_law_sorted") (He.ga K "_law_due") (He.ga K "asked_degree") (He.ma K (He.ga K "Program") "names") (He.ga K "asked_names_of") (He.ga K "products") (He.ga K "columns") := of_decide_eq_true (exK0_at ek0 (i := 0) rfl)
  obtain ⟨h_n_Form_degree, h_a_row_of, h_a_law_found, h_a_is_name, h_a_asked_names, h_a_asked_once, h_a_asked_some, h_a_measured, h_a_asked_sizes, h_a_names_in, h_a_all_within, h_n_Program_statements⟩ : okP1 K (He.ma K (He.ga K "Form") "degree") (He.ga K "row_of") (He.ga K "_law_found") (He.ga K "is_name") (He.ga K "asked_names") (He.ga K "asked_once") (He.ga K "asked_some") (He.ga K "measured") (He.ga K "asked_sizes") (He.ga K "names_in") (He.ga K "all_within") (He.ma K (He.ga K "Program") "statements") := of_decide_eq_true (exK0_at ek0 (i := 1) rfl)
  obtain ⟨h_n_Program___init__, h_a_in_order, h_n_Form___init__, h_n_Body___init__, h_a_law, h_a_Form, h_a_Put, h_a_Any, h_a_Call, h_a_Body, h_a_Program, h_pg_Form⟩ : okP2 K (He.ga K "Program") (He.ga K "Form") (He.ma K (He.ga K "Program") "__init__") (He.ga K "in_order") (He.ma K (He.ga K "Form") "__init__") (He.ga K "Body") (He.ma K (He.ga K "Body") "__init__") (He.ga K "law") (He.ga K "Put") (He.ga K "Any") (He.ga K "Call") := of_decide_eq_true (exK0_at ek0 (i := 2) rfl)
  obtain ⟨h_hd_Form, h_po_Form, h_sa_Form, h_mk_Form, h_kp_Form, h_fm_Form_degree, h_fm_Form_init, h_na_Form_terms, h_cl_Form, h_mr_Form, h_ko_Form_Any, h_ko_Form_Put⟩ : okP3 K (He.ga K "Form") (He.ma K (He.ga K "Form") "degree") (He.ma K (He.ga K "Form") "__init__") (He.ga K "Put") (He.ga K "Any") := of_decide_eq_true (exK0_at ek0 (i := 3) rfl)
  obtain ⟨h_ko_Form_Call, h_pg_Body, h_hd_Body, h_po_Body, h_sa_Body, h_mk_Body, h_kp_Body, h_fm_Body_init, h_na_Body_row, h_cl_Body, h_mr_Body, h_ko_Body_Any⟩ : okP4 K (He.ga K "Form") (He.ga K "Body") (He.ma K (He.ga K "Body") "__init__") (He.ga K "Any") (He.ga K "Call") := of_decide_eq_true (exK0_at ek0 (i := 4) rfl)
  obtain ⟨h_ko_Body_Put, h_ko_Body_Call, h_pg_Program, h_hd_Program, h_po_Program, h_sa_Program, h_mk_Program, h_kp_Program, h_fm_Program_names, h_fm_Program_statements, h_fm_Program_init, h_na_Program_number_names⟩ : okP5 K (He.ga K "Program") (He.ma K (He.ga K "Program") "names") (He.ma K (He.ga K "Program") "statements") (He.ma K (He.ga K "Program") "__init__") (He.ga K "Body") (He.ga K "Put") (He.ga K "Call") := of_decide_eq_true (exK0_at ek0 (i := 5) rfl)
  obtain ⟨h_na_Program_bodies, h_cl_Program, h_mr_Program, h_ko_Program_Any, h_ko_Program_Put, h_ko_Program_Call, h_kb_NoneType_Any, h_kb_bool_Any, h_kb_int_Any, h_kb_str_Any, h_kb_tuple_Any, h_kb_list_Any⟩ : okP6 K (He.ga K "Program") (He.ga K "Put") (He.ga K "Any") (He.ga K "Call") := of_decide_eq_true (exK0_at ek0 (i := 6) rfl)
  obtain ⟨h_kb_NoneType_Put, h_kb_bool_Put, h_kb_int_Put, h_kb_str_Put, h_kb_tuple_Put, h_kb_list_Put, h_kb_NoneType_Call, h_kb_bool_Call, h_kb_int_Call, h_kb_str_Call, h_kb_tuple_Call, h_kb_list_Call⟩ : okP7 K (He.ga K "Put") (He.ga K "Call") := of_decide_eq_true (exK0_at ek0 (i := 7) rfl)
  obtain ⟨h_a_LineError, h_a_BadCount, h_a_NoName, h_a_Twice, h_a_NoNumber, h_a_NoPart, h_ex_LineError, h_ty_LineError, h_ic_LineError, h_ex_BadCount, h_ty_BadCount, h_ic_BadCount⟩ : okP8 K (He.ga K "LineError") (He.ga K "BadCount") (He.ga K "NoName") (He.ga K "Twice") (He.ga K "NoNumber") (He.ga K "NoPart") := of_decide_eq_true (exK0_at ek0 (i := 8) rfl)
  obtain ⟨h_ex_NoName, h_ty_NoName, h_ic_NoName, h_ex_Twice, h_ty_Twice, h_ic_Twice, h_ex_NoNumber, h_ty_NoNumber, h_ic_NoNumber, h_ex_NoPart, h_ty_NoPart, h_ic_NoPart⟩ : okP9 K (He.ga K "NoName") (He.ga K "Twice") (He.ga K "NoNumber") (He.ga K "NoPart") := of_decide_eq_true (exK0_at ek0 (i := 9) rfl)
  obtain ⟨h_sa_BadCount, h_ga_BadCount, h_gg_BadCount, h_kp_BadCount, h_hd_BadCount, h_in_BadCount, h_ti_BadCount, h_no_BadCount_what, h_no_BadCount_count, h_cl_BadCount, h_mr_BadCount, h_sb_BadCount_LineError⟩ : okP10 K (He.ga K "LineError") (He.ga K "BadCount") (He.ma K (He.ga K "BadCount") "__init__") := of_decide_eq_true (exK0_at ek0 (i := 10) rfl)
  obtain ⟨h_kt_BadCount_LineError, h_sb_BadCount_BadCount, h_kt_BadCount_BadCount, h_sb_BadCount_NoName, h_kt_BadCount_NoName, h_sb_BadCount_NoNumber, h_kt_BadCount_NoNumber, h_kt_BadCount_ValueError, h_sa_NoName, h_ga_NoName, h_gg_NoName, h_kp_NoName⟩ : okP11 K (He.ga K "LineError") (He.ga K "BadCount") (He.ga K "NoName") (He.ga K "NoNumber") := of_decide_eq_true (exK0_at ek0 (i := 11) rfl)
  obtain ⟨h_hd_NoName, h_in_NoName, h_ti_NoName, h_no_NoName_name, h_cl_NoName, h_mr_NoName, h_sb_NoName_LineError, h_kt_NoName_LineError, h_sb_NoName_BadCount, h_kt_NoName_BadCount, h_sb_NoName_NoName, h_kt_NoName_NoName⟩ : okP12 K (He.ga K "LineError") (He.ga K "BadCount") (He.ga K "NoName") (He.ma K (He.ga K "NoName") "__init__") := of_decide_eq_true (exK0_at ek0 (i := 12) rfl)
  obtain ⟨h_sb_NoName_NoNumber, h_kt_NoName_NoNumber, h_kt_NoName_ValueError, h_sa_Twice, h_ga_Twice, h_gg_Twice, h_kp_Twice, h_hd_Twice, h_in_Twice, h_ti_Twice, h_no_Twice_name, h_cl_Twice⟩ : okP13 K (He.ga K "NoName") (He.ga K "Twice") (He.ga K "NoNumber") (He.ma K (He.ga K "Twice") "__init__") := of_decide_eq_true (exK0_at ek0 (i := 13) rfl)
  obtain ⟨h_mr_Twice, h_sb_Twice_LineError, h_kt_Twice_LineError, h_sb_Twice_BadCount, h_kt_Twice_BadCount, h_sb_Twice_NoName, h_kt_Twice_NoName, h_sb_Twice_NoNumber, h_kt_Twice_NoNumber, h_kt_Twice_ValueError, h_sa_NoNumber, h_ga_NoNumber⟩ : okP14 K (He.ga K "LineError") (He.ga K "BadCount") (He.ga K "NoName") (He.ga K "Twice") (He.ga K "NoNumber") := of_decide_eq_true (exK0_at ek0 (i := 14) rfl)
  obtain ⟨h_gg_NoNumber, h_kp_NoNumber, h_hd_NoNumber, h_in_NoNumber, h_ti_NoNumber, h_no_NoNumber_name, h_cl_NoNumber, h_mr_NoNumber, h_sb_NoNumber_LineError, h_kt_NoNumber_LineError, h_sb_NoNumber_BadCount, h_kt_NoNumber_BadCount⟩ : okP15 K (He.ga K "LineError") (He.ga K "BadCount") (He.ga K "NoNumber") (He.ma K (He.ga K "NoNumber") "__init__") := of_decide_eq_true (exK0_at ek0 (i := 15) rfl)
  obtain ⟨h_sb_NoNumber_NoName, h_kt_NoNumber_NoName, h_sb_NoNumber_NoNumber, h_kt_NoNumber_NoNumber, h_kt_NoNumber_ValueError, h_sa_NoPart, h_ga_NoPart, h_gg_NoPart, h_kp_NoPart, h_hd_NoPart, h_in_NoPart, h_ti_NoPart⟩ : okP16 K (He.ga K "NoName") (He.ga K "NoNumber") (He.ga K "NoPart") (He.ma K (He.ga K "NoPart") "__init__") := of_decide_eq_true (exK0_at ek0 (i := 16) rfl)
  obtain ⟨h_no_NoPart_name, h_cl_NoPart, h_mr_NoPart, h_sb_NoPart_LineError, h_kt_NoPart_LineError, h_sb_NoPart_BadCount, h_kt_NoPart_BadCount, h_sb_NoPart_NoName, h_kt_NoPart_NoName, h_sb_NoPart_NoNumber, h_kt_NoPart_NoNumber, h_kt_NoPart_ValueError⟩ : okP17 K (He.ga K "LineError") (He.ga K "BadCount") (He.ga K "NoName") (He.ga K "NoNumber") (He.ga K "NoPart") := of_decide_eq_true (exK0_at ek0 (i := 17) rfl)
  obtain ⟨h_spc, h_tkc, h_z_abs, h_z_int, h_z_range, h_z_str, h_z_len, h_z_sorted, h_z_set, h_z_tuple, h_z_list, h_z_max⟩ : okP18 K := of_decide_eq_true (exK0_at ek0 (i := 18) rfl)
  obtain ⟨h_z_enumerate, h_z_isinstance, h_z_all, h_z_sum, h_z_ValueError⟩ : okP19 K := of_decide_eq_true (exK0_at ek0 (i := 19) rfl)
  obtain ⟨_, a_LETTERS, r_LETTERS⟩ := cB_ok (exK0_at ek0 (i := 20) rfl)
  obtain ⟨_, a_FIGURES, r_FIGURES⟩ := cB_ok (exK0_at ek0 (i := 21) rfl)
  obtain ⟨_, a_LONGEST, r_LONGEST⟩ := cB_ok (exK0_at ek0 (i := 22) rfl)
  obtain ⟨_, a_MOST_NAMES, r_MOST_NAMES⟩ := cB_ok (exK0_at ek0 (i := 23) rfl)
  obtain ⟨_, a_MOST_NUMBERS, r_MOST_NUMBERS⟩ := cB_ok (exK0_at ek0 (i := 24) rfl)
  obtain ⟨_, a_MOST_PARTS, r_MOST_PARTS⟩ := cB_ok (exK0_at ek0 (i := 25) rfl)
  obtain ⟨_, a_MOST_STATEMENTS, r_MOST_STATEMENTS⟩ := cB_ok (exK0_at ek0 (i := 26) rfl)
  obtain ⟨_, a_MOST_DEEP, r_MOST_DEEP⟩ := cB_ok (exK0_at ek0 (i := 27) rfl)
  obtain ⟨_, _, _, _, _, _, _, _, _, _, _, _, _, _, _, x_BadCount, v_BadCount⟩ := xlB_ok (exK0_at ek0 (i := 28) rfl)
  obtain ⟨_, _, _, _, _, _, _, _, _, _, _, _, _, _, _, x_NoName, v_NoName⟩ := xlB_ok (exK0_at ek0 (i := 29) rfl)
  obtain ⟨_, _, _, _, _, _, _, _, _, _, _, _, _, _, _, x_Twice, v_Twice⟩ := xlB_ok (exK0_at ek0 (i := 30) rfl)
  obtain ⟨_, _, _, _, _, _, _, _, _, _, _, _, _, _, _, x_NoNumber, v_NoNumber⟩ := xlB_ok (exK0_at ek0 (i := 31) rfl)
  obtain ⟨_, _, _, _, _, _, _, _, _, _, _, _, _, _, _, x_NoPart, v_NoPart⟩ := xlB_ok (exK0_at ek0 (i := 32) rfl)
  exact all_mk lawT X G hfa h_a_law_state l0 c0 k0 h_a_law_digit l1 c1 k1 h_a_law_name l2 c2 k2 h_a_law_names l3 c3 k3 h_a_law_terms l4 c4 k4 h_a_law_sorted l5 c5 k5 h_a_law_due l6 c6 k6 h_a_asked_degree l7 c7 k7 l8 c8 k8 h_n_Program_names h_a_asked_names_of l9 c9 k9 h_a_products l10 c10 k10 h_a_columns l11 c11 k11 l12 c12 k12 h_n_Form_degree h_a_row_of l13 c13 k13 h_a_law_found l14 c14 k14 h_a_is_name l15 c15 k15 h_a_asked_names l16 c16 k16 h_a_asked_once l17 c17 k17 h_a_asked_some l18 c18 k18 h_a_measured l19 c19 k19 h_a_asked_sizes l20 c20 k20 h_a_names_in l21 c21 k21 h_a_all_within l22 c22 k22 l23 c23 k23 h_n_Program_statements l24 c24 k24 h_n_Program___init__ h_a_in_order l25 c25 k25 l26 c26 k26 h_n_Form___init__ l27 c27 k27 h_n_Body___init__ h_a_law l28 c28 k28 a_LETTERS r_LETTERS a_FIGURES r_FIGURES a_LONGEST r_LONGEST a_MOST_NAMES r_MOST_NAMES a_MOST_NUMBERS r_MOST_NUMBERS a_MOST_PARTS r_MOST_PARTS a_MOST_STATEMENTS r_MOST_STATEMENTS a_MOST_DEEP r_MOST_DEEP h_a_Form h_a_Put h_a_Any h_a_Call h_a_Body h_a_Program h_pg_Form h_hd_Form h_po_Form h_sa_Form h_mk_Form h_kp_Form h_fm_Form_degree h_fm_Form_init h_na_Form_terms h_cl_Form h_mr_Form h_ko_Form_Any h_ko_Form_Put h_ko_Form_Call h_pg_Body h_hd_Body h_po_Body h_sa_Body h_mk_Body h_kp_Body h_fm_Body_init h_na_Body_row h_cl_Body h_mr_Body h_ko_Body_Any h_ko_Body_Put h_ko_Body_Call h_pg_Program h_hd_Program h_po_Program h_sa_Program h_mk_Program h_kp_Program h_fm_Program_names h_fm_Program_statements h_fm_Program_init h_na_Program_number_names h_na_Program_bodies h_cl_Program h_mr_Program h_ko_Program_Any h_ko_Program_Put h_ko_Program_Call h_kb_NoneType_Any h_kb_bool_Any h_kb_int_Any h_kb_str_Any h_kb_tuple_Any h_kb_list_Any h_kb_NoneType_Put h_kb_bool_Put h_kb_int_Put h_kb_str_Put h_kb_tuple_Put h_kb_list_Put h_kb_NoneType_Call h_kb_bool_Call h_kb_int_Call h_kb_str_Call h_kb_tuple_Call h_kb_list_Call h_a_LineError h_a_BadCount h_a_NoName h_a_Twice h_a_NoNumber h_a_NoPart h_ex_LineError h_ty_LineError h_ic_LineError h_ex_BadCount h_ty_BadCount h_ic_BadCount h_ex_NoName h_ty_NoName h_ic_NoName h_ex_Twice h_ty_Twice h_ic_Twice h_ex_NoNumber h_ty_NoNumber h_ic_NoNumber h_ex_NoPart h_ty_NoPart h_ic_NoPart x_BadCount v_BadCount h_sa_BadCount h_ga_BadCount h_gg_BadCount h_kp_BadCount h_hd_BadCount h_in_BadCount h_ti_BadCount l29 c29 k29 h_no_BadCount_what h_no_BadCount_count h_cl_BadCount h_mr_BadCount h_sb_BadCount_LineError h_kt_BadCount_LineError h_sb_BadCount_BadCount h_kt_BadCount_BadCount h_sb_BadCount_NoName h_kt_BadCount_NoName h_sb_BadCount_NoNumber h_kt_BadCount_NoNumber h_kt_BadCount_ValueError x_NoName v_NoName h_sa_NoName h_ga_NoName h_gg_NoName h_kp_NoName h_hd_NoName h_in_NoName h_ti_NoName l30 c30 k30 h_no_NoName_name h_cl_NoName h_mr_NoName h_sb_NoName_LineError h_kt_NoName_LineError h_sb_NoName_BadCount h_kt_NoName_BadCount h_sb_NoName_NoName h_kt_NoName_NoName h_sb_NoName_NoNumber h_kt_NoName_NoNumber h_kt_NoName_ValueError x_Twice v_Twice h_sa_Twice h_ga_Twice h_gg_Twice h_kp_Twice h_hd_Twice h_in_Twice h_ti_Twice l31 c31 k31 h_no_Twice_name h_cl_Twice h_mr_Twice h_sb_Twice_LineError h_kt_Twice_LineError h_sb_Twice_BadCount h_kt_Twice_BadCount h_sb_Twice_NoName h_kt_Twice_NoName h_sb_Twice_NoNumber h_kt_Twice_NoNumber h_kt_Twice_ValueError x_NoNumber v_NoNumber h_sa_NoNumber h_ga_NoNumber h_gg_NoNumber h_kp_NoNumber h_hd_NoNumber h_in_NoNumber h_ti_NoNumber l32 c32 k32 h_no_NoNumber_name h_cl_NoNumber h_mr_NoNumber h_sb_NoNumber_LineError h_kt_NoNumber_LineError h_sb_NoNumber_BadCount h_kt_NoNumber_BadCount h_sb_NoNumber_NoName h_kt_NoNumber_NoName h_sb_NoNumber_NoNumber h_kt_NoNumber_NoNumber h_kt_NoNumber_ValueError x_NoPart v_NoPart h_sa_NoPart h_ga_NoPart h_gg_NoPart h_kp_NoPart h_hd_NoPart h_in_NoPart h_ti_NoPart l33 c33 k33 h_no_NoPart_name h_cl_NoPart h_mr_NoPart h_sb_NoPart_LineError h_kt_NoPart_LineError h_sb_NoPart_BadCount h_kt_NoPart_BadCount h_sb_NoPart_NoName h_kt_NoPart_NoName h_sb_NoPart_NoNumber h_kt_NoPart_NoNumber h_kt_NoPart_ValueError h_spc h_tkc h_z_abs h_z_int h_z_range h_z_str h_z_len h_z_sorted h_z_set h_z_tuple h_z_list h_z_max h_z_enumerate h_z_isinstance h_z_all h_z_sum h_z_ValueError
end Lw
open PySem PySem.W PySem.Calls PyProof.Rows
theorem PySem.Challenge.cw_alwayslines_k35_rows_refused_holds : PySem.Challenge.rw_alwayslines_k35_rows_refused.Holds := by
  w_on; o_law
  refine HandSHeadRun.head_any (r := OpenLaw.row PySem.Challenge.rw_alwayslines_k35_rows_refused) (q := view (OpenLaw.row PySem.Challenge.rw_alwayslines_k35_rows_refused).prog [57]) (H := Lw.hk) (ob := Lw.obK) (M := 20000) (loose := Lw.nmL) (d := HandSHeadRun.topDef (OpenLaw.row PySem.Challenge.rw_alwayslines_k35_rows_refused).prog 57) (kwd := []) AL.obsM_eq (by kernel_rfl) (fun s => by kernel_rfl) Lw.runK (by kernel_rfl) (by kernel_rfl) (by kernel_rfl) (by rfl) (by first | assumption | decide +kernel) (by decide +kernel) ⟨rfl, rfl, rfl, rfl, rfl, by decide +kernel⟩ ?hw ?hc
  case hw => w_witness2
  case hc =>
    refine AL.walk_ofM (l := PySem.Challenge.rw_alwayslines_k35_rows_refused) (n := 63) (k := 16) (x := "_law_script") (CX := fun w => L2.CX PySem.Challenge.pw_alwayslines_k35_rows_refused w) rfl (by decide) (by kernel_rfl) ⟨rfl, by decide, by decide⟩ ?F (fun _ _ _ _ _ z => AL.noCX z)
    intro w mg fa h Y G hm0
    obtain ⟨K, KX, sd, ek, hT⟩ := Y
    have hm : mg ("law" : PySem.Str) = some (.ref fa) := by
      have e : (HandSHeadRun.topDef (OpenLaw.row PySem.Challenge.rw_alwayslines_k35_rows_refused).prog 57).name = ("law" : PySem.Str) := by kernel_rfl
      rw [← e]
      exact hm0
    obtain ⟨fd, hb, hF⟩ := Lw.facts (P := PySem.Challenge.pw_alwayslines_k35_rows_refused) (w := w) KX G hm sd ek
    exact ⟨K, fd, Lw.spLaw K, KX, hT, hb, hF, fun H a ns hl hbt hTb hS => ⟨a, ns, rfl, hTb, hS, hl, hbt, fun _ => rfl⟩⟩
