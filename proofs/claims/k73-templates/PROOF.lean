import PyProof.Rows.All
import Wide.All
import OpenK.AllK
import Wide.FinOn
import HandS.ForMost
import HandS.Walk
import HandS.IsInst
import HandS.Star
import HandS.DictComp
import HandS.Zip
import HandS.Wide
import HandS.Flow
import HandS.Style
import HandS.Conv
import HandS.TupAny
import HandS.Head0
import HandS.Head1
import HandS.Head2
import HandS.HeadHook1
import HandS.HeadHook2
import PySem.Challenge.RW_onlylooks_k73_templates_made
import KE.KExcInit
import HandS.Lambda
import HandS.Exc
import HandS.ExcOwn
import HandS.WordsExc
import HandS.Deep
import HandS.Iter
import HandS.Comp
import HandS.TupLen
import HandS.Text
import HandS.StrMore
import HandS.OwnEq
import HandS.Property
import KE.KOpsOwn
import KE.KDictSum
import HandS.More
import HandS.RaiseMore
import PyProof.ReprRoads
import KE.KSuper
import HandS.Nested
import HandS.ClsMeth
import HandS.MakeKwOnly
import KE.KCallOwn
import HandS.DictTup
import KE.SortData
import KE.KDictCopyH
import KE.KExcSuper
import HandS.ExcInit
import HandS.ExcField
import KE.KExcIs
import HandS.ExcIs
import KE.GoesEnum
import KE.KEqDict
import HandS.Strs
import HandS.ListItems
import HandS.SetFor
import KE.KRevSl
import HandS.Finally
import HandS.SortRule
import KE.LtData
import PyProof.NeKinds
import HandS.SetBool
set_option Elab.async false
set_option linter.all false
set_option maxRecDepth 100000
set_option maxHeartbeats 4000000
namespace Q
open PySem L2
def small : Str := "abcdefghijklmnopqrstuvwxyz"
/-! ### the names of the module -/
/-- a def of the module, to be called -/
structure Dk (K : PySem.W.Frag) (mg : Str → Option Value) (x : Str) (f : Addr) (fd : FuncData) (ps : List Str) : Prop where
  m : mg x = some (.ref f)
  k : PySem.W.keepIn K (.ref f) = true
  b : Binds K fd ps []
/-! ### words -/
def lowC (c : Nat) : Bool := decide (c ∈ small.cps.toList)
/-- a word: one to eight small letters -/
def wordB (s : Str) : Bool := decide (1 ≤ (s.length : Int)) && decide ((s.length : Int) ≤ 8) && s.cps.toList.all lowC
/-! ### rules whose reading names the written part by its own letter -/
def rLenQ (K : PySem.W.Frag) : List V → Hp → VK → Prop := fun xs H Q => ∃ p ys, xs = [.ref p] ∧ (SqL K H p ys ∨ SqT K H p ys) ∧ Q (.int ys.length) H
def rListQ (K : PySem.W.Frag) : List V → Hp → VK → Prop := fun xs H Q => ∃ p ys, xs = [.ref p] ∧ (SqL K H p ys ∨ SqT K H p ys) ∧ ∀ l, H l = none → Q (.ref l) (upd H l (.lst ys))
def rTupleQ (K : PySem.W.Frag) : List V → Hp → VK → Prop := fun xs H Q => ∃ p ys, xs = [.ref p] ∧ ((SqL K H p ys ∧ ∀ l, H l = none → Q (.ref l) (upd H l (.tup ys))) ∨ (SqT K H p ys ∧ Q (.ref p) H))
section
variable {X : Cx}
theorem kLen (K : PySem.W.Frag) (h : X.K = K := by rfl) : CallR X (.builtin "len") (rLenQ K) := by subst h; exact call_len_seq
theorem kList (K : PySem.W.Frag) (h : X.K = K := by rfl) : CallR X (.type "list") (rListQ K) := by subst h; exact call_list_of
theorem kAll (K : PySem.W.Frag) (hc : X.calm = true) (h : X.K = K := by rfl) : CallR X (.builtin "all") (rAll K) := by subst h; exact cr_all hc
theorem kIxL (K : PySem.W.Frag) (h : X.K = K := by rfl) : IxR X (rIxL K) := by subst h; exact ix_list
theorem kSlL (K : PySem.W.Frag) (h : X.K = K := by rfl) : SlR X (rSlL K) := by subst h; exact sl_list
theorem kIn (K : PySem.W.Frag) (h : X.K = K := by rfl) : OpR X (compareOp .In) (rIn K false) := by subst h; exact op_in_seq
theorem kEqD (K : PySem.W.Frag) (hu : X.A.units + 64 < cLine) (h : X.K = K := by rfl) : OpR X (compareOp .Eq) (rEqD K) := by subst h; exact op_eqD hu
theorem kNeD (K : PySem.W.Frag) (hu : X.A.units + 64 < cLine) (h : X.K = K := by rfl) : OpR X (compareOp .NotEq) (rNeD K) := by subst h; exact op_neD hu
theorem kFld (K : PySem.W.Frag) {e : Expr} {f : Str} {ta : TE} {pos : Pos} (he : PE X e ta) (hb : attributeBase e f X.env (eval e X.env) = eval e X.env) (h : X.K = K := by rfl) : PE X (.Attribute e f pos) (tFld K ta f) := by subst h; exact pe_fld he hb
end
/-! ### heaps -/
theorem same_new {H : Hp} {p : Addr} {o : HO} (h : H p = none) : Same H (upd H p o) := fun a u e => by
  rw [upd_ne (ne_of_none e h)]
  exact e
theorem same_mut {H H' : Hp} {p : Addr} {o : HO} (e : Same H H') (h : H p = none) : Same H (upd H' p o) := fun a u ha => by
  rw [upd_ne (ne_of_none ha h)]
  exact e a u ha
theorem same_rd {H H' : Hp} {a : Addr} {u : HO} (e : Same H H') (h : Rd H a u) : Rd H' a u := by
  rcases h with h | ⟨o, h⟩
  · exact Or.inl (e a _ h)
  · exact Or.inr ⟨o, e a _ h⟩
theorem same_l {K : PySem.W.Frag} {H H' : Hp} {a : Addr} {xs : List V} (e : Same H H') (h : SqL K H a xs) : SqL K H' a xs := by
  rcases h with h | h
  · exact Or.inl (same_rd e h)
  · exact Or.inr h
/-! ### a comprehension whose parts change nothing that was there -/
theorem sizeLine_lt {n : Nat} (h : n ≤ 100000) : n < sizeLine := Nat.lt_of_le_of_lt h (by decide)
theorem sizeLine_le {n : Nat} (h : n ≤ 100000) : n ≤ sizeLine := Nat.le_trans h (by decide)
theorem flat_strs : ∀ xs : List Str, (xs.map V.str).all flatV = true
  | [] => rfl
  | _ :: xs => by
    rw [List.map_cons, List.all_cons, flat_strs xs]
    rfl
theorem cut_take (xs : List V) (k : Nat) : cutV xs none (some (k : Int)) = xs.take k := by
  unfold cutV
  rw [HT.sIx_none, HT.sIx_nat, List.drop_zero, Nat.sub_zero, ← List.take_take, List.take_length]
theorem eqv_nil (ds : List PyData) : PyData.eqv (.list ds) (.list []) = ds.isEmpty := by
  cases ds <;> rfl
end Q
/-! the head by one run of the kernel; the facts by a check of the objects that are read -/
namespace Q
open PySem PySem.Spec PyProof.Rows L2
abbrev Frg := PySem.W.Frag
/-- what a walk may read behind an object -/
def refsQ (o : Obj) : List Addr := match o.data with
  | .dict es _ => es.toList.flatMap fun e => He.refV e.val
  | .func fd => He.refV fd.code ++ He.refV fd.kwdefaults ++ fd.closure.map (·.2)
  | .cls cd => cd.ns :: cd.mro.flatMap He.refV
  | .cell (some v) => He.refV v
  | .fields vs => (match o.cls with
    | .type n => if n == "property" || n == "staticmethod" then vs.toList.flatMap He.refV else []
    | _ => [])
  | _ => []
def growQ (g : Addr → Option Obj) (as : List Addr) : List Addr := (as ++ as.flatMap fun a => match g a with
  | some o => refsQ o
  | none => []).eraseDups
def asQ (g : Addr → Option Obj) : Nat → List Addr
  | 0 => [mainGlobals, cStatics]
  | n + 1 => growQ g (asQ g n)
abbrev FnV : Type := Option (Str × Str × Arguments × FuncBody × Scope × Addr × List Str × Addr × Value)
def fnV (K : Frg) (a : Addr) : FnV := match K.lookup a with
  | some ⟨_, _, .func fd, _⟩ => some (fd.name, fd.qualname, fd.params, fd.body, fd.scope, fd.globals, fd.closure.map (·.1), fd.builtins, fd.defaults)
  | _ => none
def cdQ (K : Frg) (a : Addr) : Value := match K.lookup a with
  | some ⟨_, _, .func fd, _⟩ => fd.code
  | _ => .none
def coQ (K : Frg) (a : Addr) : Addr := match cdQ K a with
  | .ref c => c
  | _ => 0
def ccQ (K : Frg) (a : Addr) : Addr := match K.lookup a with
  | some ⟨_, _, .func fd, _⟩ => (match fd.closure with
    | (_, c) :: _ => c
    | _ => 0)
  | _ => 0
def cellQ (K : Frg) (a : Addr) : Option Value := match K.lookup a with
  | some ⟨_, _, .cell (some v), _⟩ => some v
  | _ => none
def fileQ (K : Frg) (a : Addr) : Option Str := match K.lookup a with
  | some ⟨_, _, .fields vs, _⟩ => (match (vs[2]? : Option Value) with
    | some (.str f _) => some f
    | _ => none)
  | _ => none
/-- the function of a property, and what stands behind it -/
def paQ (K : Frg) (p : Addr) : Addr := match PySem.W.recIn K p "property" with
  | some (.ref a :: _) => a
  | _ => 0
def preQ (K : Frg) (p : Addr) : List Value := match PySem.W.recIn K p "property" with
  | some (_ :: r) => r
  | _ => []
def intQ (K : Frg) (x : Str) (i : Int) : Bool := match PySem.W.nsIn K mainGlobals x with
  | some (some (.int j _)) => decide (j = i)
  | _ => false
def strQ (K : Frg) (x z : Str) : Bool := match PySem.W.nsIn K mainGlobals x with
  | some (some (.str y _)) => decide (y = z)
  | _ => false
def plainV (x qual : Str) (st : Stmt) : FnV := some (x, qual, defArgs st, .stmts (defBody st), defScope st, mainGlobals, [], builtinsNs, .none)
def superV (x qual : Str) (st : Stmt) : FnV := some (x, qual, defArgs st, .stmts (defBody st), defScope st, mainGlobals, ["__class__"], builtinsNs, .none)
section
variable {K : Frg} {a : Addr} {x qual : Str} {st : Stmt}
theorem fn_ex (e : fnV K a = plainV x qual st) : ∃ (oc : Value) (od : Option Addr) (kV doc pm : Value) (an : Option Addr) (ct : Value) (sl : Array (Option Value)), K.lookup a = some ⟨oc, od, .func (PySem.W.fnOf x qual (defArgs st) (defBody st) (defScope st) .none kV doc pm an (cdQ K a) ct), sl⟩ := by
  unfold fnV plainV at e
  unfold cdQ
  cases q : K.lookup a with
  | none => rw [q] at e; cases e
  | some o =>
    obtain ⟨oc, od, dt, sl⟩ := o
    rw [q] at e
    cases dt with
    | func fd =>
      obtain ⟨n1, n2, n3, n4, n5, n6, n7, n8, n9, n10, n11, n12, n13, n14, n15⟩ := fd
      simp only [Option.some.injEq, Prod.mk.injEq, List.map_eq_nil_iff] at e
      obtain ⟨h1, h2, h3, h4, h5, h6, h7, h8, h9⟩ := e
      subst h1 h2 h3 h4 h5 h6 h7 h8 h9
      exact ⟨oc, od, n9, n10, n11, n12, n14, sl, rfl⟩
    | _ => cases e
theorem sup_ex {D : Addr} (e : fnV K a = superV x qual st) (hc : cdQ K a = .ref (coQ K a)) (he : cellQ K (ccQ K a) = some (.ref D)) : ∃ (oc kV doc pm ct cl : Value) (od an cld : Option Addr) (osl csl : Array (Option Value)),
    K.lookup a = some ⟨oc, od, .func (PySem.W.fnX x qual (defArgs st) (defBody st) (defScope st) [(("__class__" : Str), ccQ K a)] .none kV doc pm an (.ref (coQ K a)) ct), osl⟩ ∧ K.lookup (ccQ K a) = some ⟨cl, cld, .cell (some (.ref D)), csl⟩ := by
  have hcell : ∃ (cl : Value) (cld : Option Addr) (csl : Array (Option Value)), K.lookup (ccQ K a) = some ⟨cl, cld, .cell (some (.ref D)), csl⟩ := by
    unfold cellQ at he
    split at he
    · rename_i o1 o2 v o3 q
      cases he
      exact ⟨_, _, _, q⟩
    · cases he
  obtain ⟨cl, cld, csl, hcell⟩ := hcell
  generalize hcc : ccQ K a = cc at hcell ⊢
  generalize coQ K a = co at hc ⊢
  unfold fnV superV at e
  unfold cdQ at hc
  unfold ccQ at hcc
  cases q : K.lookup a with
  | none => rw [q] at e; cases e
  | some o =>
    obtain ⟨oc, od, dt, sl⟩ := o
    rw [q] at e hc hcc
    cases dt with
    | func fd =>
      obtain ⟨n1, n2, n3, n4, n5, n6, n7, n8, n9, n10, n11, n12, n13, n14, n15⟩ := fd
      simp only [Option.some.injEq, Prod.mk.injEq] at e
      obtain ⟨h1, h2, h3, h4, h5, h6, h7, h8, h9⟩ := e
      cases n7 with
      | nil => cases h7
      | cons p r =>
        rw [List.map_cons] at h7
        simp only [List.cons.injEq, List.map_eq_nil_iff] at h7
        obtain ⟨h71, h72⟩ := h7
        obtain ⟨p1, p2⟩ := p
        have hp2 : p2 = cc := hcc
        have hp1 : p1 = ("__class__" : Str) := h71
        have h13 : n13 = .ref co := hc
        subst h1 h2 h3 h4 h5 h6 h72 hp1 hp2 h8 h9 h13
        exact ⟨oc, n9, n10, n11, n14, cl, od, n12, cld, sl, csl, rfl, hcell⟩
    | _ => cases e
theorem file_ex {c : Addr} {f : Str} (e : fileQ K c = some f) : ∃ (oc : Value) (od : Option Addr) (vs : Array Value) (sl : Array (Option Value)) (tf : Tok), K.lookup c = some ⟨oc, od, .fields vs, sl⟩ ∧ vs[2]? = some (.str f tf) := by
  unfold fileQ at e
  split at e
  · rename_i o1 o2 vs o3 q
    split at e
    · rename_i g tf q2
      cases e
      exact ⟨_, _, vs, _, tf, q, q2⟩
    · cases e
  · cases e
theorem int_ex {z : Str} {i : Int} (h : intQ K z i = true) : ∃ t, PySem.W.nsIn K mainGlobals z = some (some (.int i t)) := by
  unfold intQ at h
  split at h
  · rename_i j t q
    exact ⟨t, by rw [q, of_decide_eq_true h]⟩
  · cases h
theorem str_ex {z y : Str} (h : strQ K z y = true) : ∃ t, PySem.W.nsIn K mainGlobals z = some (some (.str y t)) := by
  unfold strQ at h
  split at h
  · rename_i j t q
    exact ⟨t, by rw [q, of_decide_eq_true h]⟩
  · cases h
end
/-! the hook -/
abbrev AlQ : Type := Bool × List FnV
def obsQ (n : Nat) (ck : Frg → Bool) (fv : Frg → List FnV) (g : Addr → Option Obj) : AlQ := (ck (He.frG g (asQ g n)), fv (He.frG g (asQ g n)))
def hookQ (n : Nat) (ck : Frg → Bool) (fv : Frg → List FnV) (vals : List FnV) : PySem.W.Hook where
  α := AlQ
  obs := fun s => obsQ n ck fv s.heap.get?
  val := fun _ => (true, vals)
  says := fun _ h => ∃ K : Frg, K.In h ∧ ck K = true ∧ fv K = vals
  of := fun _ _ e => ⟨_, He.frG_in, congrArg Prod.fst e, congrArg Prod.snd e⟩
  keeps := fun _ _ _ ⟨K, hK, c⟩ k => ⟨K, PySem.W.Frag.In.keeps hK k, c⟩
theorem obsQ_eq {n : Nat} {ck : Frg → Bool} {fv : Frg → List FnV} {vals : List FnV} {g : Addr → Option Obj} {s : Shared} (h : ∀ a, g a = s.heap.get? a) : obsQ n ck fv g = (hookQ n ck fv vals).obs s := by
  have e : g = s.heap.get? := funext h
  rw [e]
  rfl
theorem at_list {α : Type} {xs ys : List α} (e : xs = ys) (i : Nat) {a b : α} (h1 : xs[i]? = some a) (h2 : ys[i]? = some b) : a = b := by
  rw [e, h2] at h1
  exact (Option.some.inj h1).symm
end Q
namespace Q
open PySem L2 PySem.Spec PyProof.Rows
def top (i : Nat) : Stmt := PySem.Challenge.pw_onlylooks_k73_templates_made.main.body.getD i (.Pass ⟨0, 0, 0, 0⟩)
abbrev s_InvalidTemplate___init__ : Stmt := inClass (top 2) 0
abbrev N_InvalidTemplate___init__ : List Str := ["self", "index", "__class__"]
abbrev p_InvalidTemplate___init__ : List Str := ["self", "index"]
abbrev s_is_integer : Stmt := top 9
abbrev N_is_integer : List Str := ["value"]
abbrev p_is_integer : List Str := ["value"]
abbrev s_is_within : Stmt := top 10
abbrev N_is_within : List Str := ["value", "least", "greatest"]
abbrev p_is_within : List Str := ["value", "least", "greatest"]
abbrev s_is_word : Stmt := top 11
abbrev N_is_word : List Str := ["value", "letter"]
abbrev p_is_word : List Str := ["value"]
abbrev s_is_list : Stmt := top 12
abbrev N_is_list : List Str := ["value"]
abbrev p_is_list : List Str := ["value"]
abbrev s_is_cell : Stmt := top 14
abbrev N_is_cell : List Str := ["value"]
abbrev p_is_cell : List Str := ["value"]
abbrev s_is_entry : Stmt := top 15
abbrev N_is_entry : List Str := ["value", "cells", "cell"]
abbrev p_is_entry : List Str := ["value"]
abbrev s_parameters_in : Stmt := top 16
abbrev N_parameters_in : List Str := ["entries", "cell", "table", "cells"]
abbrev p_parameters_in : List Str := ["entries"]
abbrev s_Template___init__ : Stmt := inClass (top 17) 0
abbrev N_Template___init__ : List Str := ["self", "put", "taken", "entries", "found", "index", "entry"]
abbrev p_Template___init__ : List Str := ["self", "put", "taken"]
abbrev s_Template___eq__ : Stmt := inClass (top 17) 1
abbrev N_Template___eq__ : List Str := ["self", "other"]
abbrev p_Template___eq__ : List Str := ["self", "other"]
abbrev s_Template_put_rows : Stmt := inClass (top 17) 2
abbrev N_Template_put_rows : List Str := ["self"]
abbrev p_Template_put_rows : List Str := ["self"]
abbrev s_Template_taken_rows : Stmt := inClass (top 17) 3
abbrev N_Template_taken_rows : List Str := ["self"]
abbrev p_Template_taken_rows : List Str := ["self"]
abbrev s_Template_parameters : Stmt := inClass (top 17) 4
abbrev N_Template_parameters : List Str := ["self"]
abbrev p_Template_parameters : List Str := ["self"]
abbrev s__law_pen : Stmt := top 21
abbrev N__law_pen : List Str := ["_law_script"]
abbrev p__law_pen : List Str := ["_law_script"]
abbrev s__law_draw : Stmt := top 22
abbrev N__law_draw : List Str := ["_law_pen_here", "_law_span", "_law_turn", "_law_cell", "_law_primes", "_law_prime", "_law_drawn", "_law_digit"]
abbrev p__law_draw : List Str := ["_law_pen_here", "_law_span"]
abbrev s__law_pick : Stmt := top 23
abbrev N__law_pick : List Str := ["_law_pen_here", "_law_options"]
abbrev p__law_pick : List Str := ["_law_pen_here", "_law_options"]
abbrev s__law_qint : Stmt := top 24
abbrev N__law_qint : List Str := ["_law_value", "_law_least", "_law_most"]
abbrev p__law_qint : List Str := ["_law_value", "_law_least", "_law_most"]
abbrev s__law_qodd : Stmt := top 25
abbrev N__law_qodd : List Str := ["_law_pen_here", "_law_some"]
abbrev p__law_qodd : List Str := ["_law_pen_here"]
abbrev s__law_vused : Stmt := top 26
abbrev N__law_vused : List Str := ["_law_some", "_law_found", "_law_table", "_law_cells", "_law_cell"]
abbrev p__law_vused : List Str := ["_law_some"]
abbrev s__law_is_word_here : Stmt := top 27
abbrev N__law_is_word_here : List Str := ["_law_value", "_law_letter"]
abbrev p__law_is_word_here : List Str := ["_law_value"]
abbrev s__law_is_entry : Stmt := top 28
abbrev N__law_is_entry : List Str := ["_law_value", "_law_cell"]
abbrev p__law_is_entry : List Str := ["_law_value"]
abbrev s__law_due : Stmt := top 29
abbrev N__law_due : List Str := ["_law_put", "_law_taken", "_law_some", "_law_wrong", "_law_used", "_law_k"]
abbrev p__law_due : List Str := ["_law_put", "_law_taken"]
abbrev s__law_told : Stmt := top 30
abbrev N__law_told : List Str := ["_law_put", "_law_taken", "e", "_law_made"]
abbrev p__law_told : List Str := ["_law_put", "_law_taken"]
abbrev s__law_entry : Stmt := top 31
abbrev N__law_entry : List Str := ["_law_pen_here", "_law_span", "_law_cells", "_law_k"]
abbrev p__law_entry : List Str := ["_law_pen_here", "_law_span"]
abbrev s__law_bad : Stmt := top 32
abbrev N__law_bad : List Str := ["_law_pen_here", "_law_entry_here", "_law_odd", "_law_some", "_law_table", "_law_cells"]
abbrev p__law_bad : List Str := ["_law_pen_here", "_law_entry_here"]
abbrev s__law_same : Stmt := top 33
abbrev N__law_same : List Str := ["_law_one", "_law_other"]
abbrev p__law_same : List Str := ["_law_one", "_law_other"]
abbrev s_law : Stmt := top 34
abbrev N_law : List Str := ["_law_script", "_law_pen_here", "_law_turn", "_law_some", "_law_cut", "_law_turned", "_law_put", "_law_taken", "_law_at", "_law_due_here", "_law_kept", "_law_made", "_law_first", "_law_second", "_law_k"]
abbrev p_law : List Str := ["_law_script"]
end Q
namespace Q
open PySem L2 PySem.Spec PyProof.Rows
def x_C_InvalidTemplate (K : Frg) := He.ga K "InvalidTemplate"
def x_C_Template (K : Frg) := He.ga K "Template"
def x_a_InvalidTemplate___init__ (K : Frg) := He.ma K (He.ga K "InvalidTemplate") "__init__"
def x_co_InvalidTemplate___init__ (K : Frg) := coQ K (He.ma K (He.ga K "InvalidTemplate") "__init__")
def x_a_is_integer (K : Frg) := He.ga K "is_integer"
def x_cd_is_integer (K : Frg) := cdQ K (He.ga K "is_integer")
def x_a_is_within (K : Frg) := He.ga K "is_within"
def x_cd_is_within (K : Frg) := cdQ K (He.ga K "is_within")
def x_a_is_word (K : Frg) := He.ga K "is_word"
def x_cd_is_word (K : Frg) := cdQ K (He.ga K "is_word")
def x_a_is_list (K : Frg) := He.ga K "is_list"
def x_cd_is_list (K : Frg) := cdQ K (He.ga K "is_list")
def x_a_is_cell (K : Frg) := He.ga K "is_cell"
def x_cd_is_cell (K : Frg) := cdQ K (He.ga K "is_cell")
def x_a_is_entry (K : Frg) := He.ga K "is_entry"
def x_cd_is_entry (K : Frg) := cdQ K (He.ga K "is_entry")
def x_a_parameters_in (K : Frg) := He.ga K "parameters_in"
def x_cd_parameters_in (K : Frg) := cdQ K (He.ga K "parameters_in")
def x_a_Template___init__ (K : Frg) := He.ma K (He.ga K "Template") "__init__"
def x_cd_Template___init__ (K : Frg) := cdQ K (He.ma K (He.ga K "Template") "__init__")
def x_a_Template___eq__ (K : Frg) := He.ma K (He.ga K "Template") "__eq__"
def x_cd_Template___eq__ (K : Frg) := cdQ K (He.ma K (He.ga K "Template") "__eq__")
def x_p_Template_put_rows_ (K : Frg) := He.ma K (He.ga K "Template") "put_rows"
def x_a_Template_put_rows (K : Frg) := paQ K (He.ma K (He.ga K "Template") "put_rows")
def x_re_Template_put_rows (K : Frg) := preQ K (He.ma K (He.ga K "Template") "put_rows")
def x_cd_Template_put_rows (K : Frg) := cdQ K (paQ K (He.ma K (He.ga K "Template") "put_rows"))
def x_p_Template_taken_rows_ (K : Frg) := He.ma K (He.ga K "Template") "taken_rows"
def x_a_Template_taken_rows (K : Frg) := paQ K (He.ma K (He.ga K "Template") "taken_rows")
def x_re_Template_taken_rows (K : Frg) := preQ K (He.ma K (He.ga K "Template") "taken_rows")
def x_cd_Template_taken_rows (K : Frg) := cdQ K (paQ K (He.ma K (He.ga K "Template") "taken_rows"))
def x_p_Template_parameters_ (K : Frg) := He.ma K (He.ga K "Template") "parameters"
def x_a_Template_parameters (K : Frg) := paQ K (He.ma K (He.ga K "Template") "parameters")
def x_re_Template_parameters (K : Frg) := preQ K (He.ma K (He.ga K "Template") "parameters")
def x_cd_Template_parameters (K : Frg) := cdQ K (paQ K (He.ma K (He.ga K "Template") "parameters"))
def x_a__law_pen (K : Frg) := He.ga K "_law_pen"
def x_cd__law_pen (K : Frg) := cdQ K (He.ga K "_law_pen")
def x_a__law_draw (K : Frg) := He.ga K "_law_draw"
def x_cd__law_draw (K : Frg) := cdQ K (He.ga K "_law_draw")
def x_a__law_pick (K : Frg) := He.ga K "_law_pick"
def x_cd__law_pick (K : Frg) := cdQ K (He.ga K "_law_pick")
def x_a__law_qint (K : Frg) := He.ga K "_law_qint"
def x_cd__law_qint (K : Frg) := cdQ K (He.ga K "_law_qint")
def x_a__law_qodd (K : Frg) := He.ga K "_law_qodd"
def x_cd__law_qodd (K : Frg) := cdQ K (He.ga K "_law_qodd")
def x_a__law_vused (K : Frg) := He.ga K "_law_vused"
def x_cd__law_vused (K : Frg) := cdQ K (He.ga K "_law_vused")
def x_a__law_is_word_here (K : Frg) := He.ga K "_law_is_word_here"
def x_cd__law_is_word_here (K : Frg) := cdQ K (He.ga K "_law_is_word_here")
def x_a__law_is_entry (K : Frg) := He.ga K "_law_is_entry"
def x_cd__law_is_entry (K : Frg) := cdQ K (He.ga K "_law_is_entry")
def x_a__law_due (K : Frg) := He.ga K "_law_due"
def x_cd__law_due (K : Frg) := cdQ K (He.ga K "_law_due")
def x_a__law_told (K : Frg) := He.ga K "_law_told"
def x_cd__law_told (K : Frg) := cdQ K (He.ga K "_law_told")
def x_a__law_entry (K : Frg) := He.ga K "_law_entry"
def x_cd__law_entry (K : Frg) := cdQ K (He.ga K "_law_entry")
def x_a__law_bad (K : Frg) := He.ga K "_law_bad"
def x_cd__law_bad (K : Frg) := cdQ K (He.ga K "_law_bad")
def x_a__law_same (K : Frg) := He.ga K "_law_same"
def x_cd__law_same (K : Frg) := cdQ K (He.ga K "_law_same")
def x_a_law (K : Frg) := He.ga K "law"
def x_cd_law (K : Frg) := cdQ K (He.ga K "law")
def ck0 (K : Frg) : Bool := decide (PySem.W.nsIn K mainGlobals "InvalidTemplate" = some (some (.ref (x_C_InvalidTemplate K)))) && (decide (PySem.W.nsIn K mainGlobals "Template" = some (some (.ref (x_C_Template K)))) && (decide (PySem.W.plainGet K (x_C_Template K) Str.empty = true) && (decide (PySem.W.hasDictIn K (x_C_Template K) = true) && (decide (PySem.W.plainOver K (x_C_Template K) = true) && (decide (PySem.W.findIn K (.ref (x_C_Template K)) "__setattr__" = some (some (.builtin "object.__setattr__"))) && (decide (PySem.W.findIn K (.ref (x_C_Template K)) "own_put" = some none) && (decide (PySem.W.findIn K (.ref (x_C_Template K)) "own_taken" = some none) && (decide (PySem.W.findIn K (.ref (x_C_Template K)) "many" = some none) && (decide (PySem.W.findIn K (.ref (x_C_Template K)) "__class__" = some (some (.builtin "object.__class__"))) && (decide (PySem.W.mroIn K (x_C_Template K) (.type "object") = some true) && (decide (PySem.W.specialIn K (.builtin "object.__class__") "__get__" = some (some (.builtin "getset_descriptor.__get__"))) && (decide (PySem.W.takesIn K (.builtin "object.__class__") = some true) && (decide (PySem.W.kitOne K (.ref (x_C_Template K)) (.ref (x_C_Template K)) = some true) && (decide (PySem.W.kitOne K (.ref (x_C_InvalidTemplate K)) (.type "ValueError") = some true) && (decide (PySem.W.kitOne K (.type "tuple") (.ref (x_C_Template K)) = some false) && (decide (PySem.W.kitOne K (.type "NoneType") (.ref (x_C_Template K)) = some false) && (decide (PySem.W.findIn K (.ref (x_C_InvalidTemplate K)) "__init__" = some (some (.ref (x_a_InvalidTemplate___init__ K)))) && (decide (cdQ K (x_a_InvalidTemplate___init__ K) = .ref (coQ K (x_a_InvalidTemplate___init__ K))) && (decide (cellQ K (ccQ K (x_a_InvalidTemplate___init__ K)) = some (.ref (x_C_InvalidTemplate K))) && (decide (fileQ K (coQ K (x_a_InvalidTemplate___init__ K)) = some (PySem.Challenge.rw_onlylooks_k73_templates_made).prog.main.file) && (decide (PySem.W.codeIn K (.ref (x_co_InvalidTemplate___init__ K)) "InvalidTemplate.__init__" = true) && (decide (PySem.W.keepIn K (.ref (x_a_InvalidTemplate___init__ K)) = true) && (decide (PySem.W.isFn K (.ref (x_a_InvalidTemplate___init__ K)) = true) && (decide (PySem.W.mroIn K (x_C_InvalidTemplate K) (.ref (x_C_InvalidTemplate K)) = some true) && (decide (PySem.W.nsIn K cStatics "thirdparty.any" = some none) && (decide (PySem.W.ks_superIn K (x_C_InvalidTemplate K) (x_C_InvalidTemplate K) "__init__" = some (some (.builtin "ValueError.__init__"))) && (decide (PySem.W.findIn K (.ref (x_C_InvalidTemplate K)) "__init__" = some (some (.ref (x_a_InvalidTemplate___init__ K)))) && (decide (PySem.W.excInitIn K (x_C_InvalidTemplate K) [.type "ValueError", .type "Exception", .type "BaseException", .type "object"] "ValueError.__new__" = true) && (decide (PySem.W.excOver K (x_C_InvalidTemplate K) [.type "ValueError", .type "Exception", .type "BaseException", .type "object"] = true))))))))))))))))))))))))))))))
theorem ck0_ok {K : Frg} (c : ck0 K = true) : (PySem.W.nsIn K mainGlobals "InvalidTemplate" = some (some (.ref (x_C_InvalidTemplate K)))) ∧ (PySem.W.nsIn K mainGlobals "Template" = some (some (.ref (x_C_Template K)))) ∧ (PySem.W.plainGet K (x_C_Template K) Str.empty = true) ∧ (PySem.W.hasDictIn K (x_C_Template K) = true) ∧ (PySem.W.plainOver K (x_C_Template K) = true) ∧ (PySem.W.findIn K (.ref (x_C_Template K)) "__setattr__" = some (some (.builtin "object.__setattr__"))) ∧ (PySem.W.findIn K (.ref (x_C_Template K)) "own_put" = some none) ∧ (PySem.W.findIn K (.ref (x_C_Template K)) "own_taken" = some none) ∧ (PySem.W.findIn K (.ref (x_C_Template K)) "many" = some none) ∧ (PySem.W.findIn K (.ref (x_C_Template K)) "__class__" = some (some (.builtin "object.__class__"))) ∧ (PySem.W.mroIn K (x_C_Template K) (.type "object") = some true) ∧ (PySem.W.specialIn K (.builtin "object.__class__") "__get__" = some (some (.builtin "getset_descriptor.__get__"))) ∧ (PySem.W.takesIn K (.builtin "object.__class__") = some true) ∧ (PySem.W.kitOne K (.ref (x_C_Template K)) (.ref (x_C_Template K)) = some true) ∧ (PySem.W.kitOne K (.ref (x_C_InvalidTemplate K)) (.type "ValueError") = some true) ∧ (PySem.W.kitOne K (.type "tuple") (.ref (x_C_Template K)) = some false) ∧ (PySem.W.kitOne K (.type "NoneType") (.ref (x_C_Template K)) = some false) ∧ (PySem.W.findIn K (.ref (x_C_InvalidTemplate K)) "__init__" = some (some (.ref (x_a_InvalidTemplate___init__ K)))) ∧ (cdQ K (x_a_InvalidTemplate___init__ K) = .ref (coQ K (x_a_InvalidTemplate___init__ K))) ∧ (cellQ K (ccQ K (x_a_InvalidTemplate___init__ K)) = some (.ref (x_C_InvalidTemplate K))) ∧ (fileQ K (coQ K (x_a_InvalidTemplate___init__ K)) = some (PySem.Challenge.rw_onlylooks_k73_templates_made).prog.main.file) ∧ (PySem.W.codeIn K (.ref (x_co_InvalidTemplate___init__ K)) "InvalidTemplate.__init__" = true) ∧ (PySem.W.keepIn K (.ref (x_a_InvalidTemplate___init__ K)) = true) ∧ (PySem.W.isFn K (.ref (x_a_InvalidTemplate___init__ K)) = true) ∧ (PySem.W.mroIn K (x_C_InvalidTemplate K) (.ref (x_C_InvalidTemplate K)) = some true) ∧ (PySem.W.nsIn K cStatics "thirdparty.any" = some none) ∧ (PySem.W.ks_superIn K (x_C_InvalidTemplate K) (x_C_InvalidTemplate K) "__init__" = some (some (.builtin "ValueError.__init__"))) ∧ (PySem.W.findIn K (.ref (x_C_InvalidTemplate K)) "__init__" = some (some (.ref (x_a_InvalidTemplate___init__ K)))) ∧ (PySem.W.excInitIn K (x_C_InvalidTemplate K) [.type "ValueError", .type "Exception", .type "BaseException", .type "object"] "ValueError.__new__" = true) ∧ (PySem.W.excOver K (x_C_InvalidTemplate K) [.type "ValueError", .type "Exception", .type "BaseException", .type "object"] = true) := by
  unfold ck0 at c
  simp only [Bool.and_eq_true, decide_eq_true_eq] at c
  exact c
def ck1 (K : Frg) : Bool := decide (PySem.W.hasDictIn K (x_C_InvalidTemplate K) = true) && (decide (PySem.W.findIn K (.ref (x_C_InvalidTemplate K)) "__setattr__" = some (some (.builtin "object.__setattr__"))) && (decide (PySem.W.subIn K (.ref (x_C_InvalidTemplate K)) (.type "BaseException") = some true) && (decide (PySem.W.subIn K (.ref (x_C_InvalidTemplate K)) (.type "ValueError") = some true) && (decide (PySem.W.typeIn K (.ref (x_C_InvalidTemplate K)) = some (.type "type")) && (decide (PySem.W.keepIn K (.ref (x_C_InvalidTemplate K)) = true) && (decide (PySem.W.takerIn K (x_C_InvalidTemplate K) "index" = some none) && (decide (PySem.W.nsIn K mainGlobals "is_integer" = some (some (.ref (x_a_is_integer K)))) && (decide (PySem.W.codeIn K (x_cd_is_integer K) "is_integer" = true) && (decide (PySem.W.keepIn K (.ref (x_a_is_integer K)) = true) && (decide (PySem.W.nsIn K mainGlobals "is_within" = some (some (.ref (x_a_is_within K)))) && (decide (PySem.W.codeIn K (x_cd_is_within K) "is_within" = true) && (decide (PySem.W.keepIn K (.ref (x_a_is_within K)) = true) && (decide (PySem.W.nsIn K mainGlobals "is_word" = some (some (.ref (x_a_is_word K)))) && (decide (PySem.W.codeIn K (x_cd_is_word K) "is_word" = true) && (decide (PySem.W.keepIn K (.ref (x_a_is_word K)) = true) && (decide (PySem.W.nsIn K mainGlobals "is_list" = some (some (.ref (x_a_is_list K)))) && (decide (PySem.W.codeIn K (x_cd_is_list K) "is_list" = true) && (decide (PySem.W.keepIn K (.ref (x_a_is_list K)) = true) && (decide (PySem.W.nsIn K mainGlobals "is_cell" = some (some (.ref (x_a_is_cell K)))) && (decide (PySem.W.codeIn K (x_cd_is_cell K) "is_cell" = true) && (decide (PySem.W.keepIn K (.ref (x_a_is_cell K)) = true) && (decide (PySem.W.nsIn K mainGlobals "is_entry" = some (some (.ref (x_a_is_entry K)))) && (decide (PySem.W.codeIn K (x_cd_is_entry K) "is_entry" = true) && (decide (PySem.W.keepIn K (.ref (x_a_is_entry K)) = true) && (decide (PySem.W.nsIn K mainGlobals "parameters_in" = some (some (.ref (x_a_parameters_in K)))) && (decide (PySem.W.codeIn K (x_cd_parameters_in K) "parameters_in" = true) && (decide (PySem.W.keepIn K (.ref (x_a_parameters_in K)) = true) && (decide (PySem.W.findIn K (.ref (x_C_Template K)) "__init__" = some (some (.ref (x_a_Template___init__ K)))) && (decide (PySem.W.codeIn K (x_cd_Template___init__ K) "Template.__init__" = true))))))))))))))))))))))))))))))
theorem ck1_ok {K : Frg} (c : ck1 K = true) : (PySem.W.hasDictIn K (x_C_InvalidTemplate K) = true) ∧ (PySem.W.findIn K (.ref (x_C_InvalidTemplate K)) "__setattr__" = some (some (.builtin "object.__setattr__"))) ∧ (PySem.W.subIn K (.ref (x_C_InvalidTemplate K)) (.type "BaseException") = some true) ∧ (PySem.W.subIn K (.ref (x_C_InvalidTemplate K)) (.type "ValueError") = some true) ∧ (PySem.W.typeIn K (.ref (x_C_InvalidTemplate K)) = some (.type "type")) ∧ (PySem.W.keepIn K (.ref (x_C_InvalidTemplate K)) = true) ∧ (PySem.W.takerIn K (x_C_InvalidTemplate K) "index" = some none) ∧ (PySem.W.nsIn K mainGlobals "is_integer" = some (some (.ref (x_a_is_integer K)))) ∧ (PySem.W.codeIn K (x_cd_is_integer K) "is_integer" = true) ∧ (PySem.W.keepIn K (.ref (x_a_is_integer K)) = true) ∧ (PySem.W.nsIn K mainGlobals "is_within" = some (some (.ref (x_a_is_within K)))) ∧ (PySem.W.codeIn K (x_cd_is_within K) "is_within" = true) ∧ (PySem.W.keepIn K (.ref (x_a_is_within K)) = true) ∧ (PySem.W.nsIn K mainGlobals "is_word" = some (some (.ref (x_a_is_word K)))) ∧ (PySem.W.codeIn K (x_cd_is_word K) "is_word" = true) ∧ (PySem.W.keepIn K (.ref (x_a_is_word K)) = true) ∧ (PySem.W.nsIn K mainGlobals "is_list" = some (some (.ref (x_a_is_list K)))) ∧ (PySem.W.codeIn K (x_cd_is_list K) "is_list" = true) ∧ (PySem.W.keepIn K (.ref (x_a_is_list K)) = true) ∧ (PySem.W.nsIn K mainGlobals "is_cell" = some (some (.ref (x_a_is_cell K)))) ∧ (PySem.W.codeIn K (x_cd_is_cell K) "is_cell" = true) ∧ (PySem.W.keepIn K (.ref (x_a_is_cell K)) = true) ∧ (PySem.W.nsIn K mainGlobals "is_entry" = some (some (.ref (x_a_is_entry K)))) ∧ (PySem.W.codeIn K (x_cd_is_entry K) "is_entry" = true) ∧ (PySem.W.keepIn K (.ref (x_a_is_entry K)) = true) ∧ (PySem.W.nsIn K mainGlobals "parameters_in" = some (some (.ref (x_a_parameters_in K)))) ∧ (PySem.W.codeIn K (x_cd_parameters_in K) "parameters_in" = true) ∧ (PySem.W.keepIn K (.ref (x_a_parameters_in K)) = true) ∧ (PySem.W.findIn K (.ref (x_C_Template K)) "__init__" = some (some (.ref (x_a_Template___init__ K)))) ∧ (PySem.W.codeIn K (x_cd_Template___init__ K) "Template.__init__" = true) := by
  unfold ck1 at c
  simp only [Bool.and_eq_true, decide_eq_true_eq] at c
  exact c
def ck2 (K : Frg) : Bool := decide (PySem.W.keepIn K (.ref (x_a_Template___init__ K)) = true) && (decide (PySem.W.isFn K (.ref (x_a_Template___init__ K)) = true) && (decide (PySem.W.makesIn K (x_C_Template K) = true) && (decide (PySem.W.keepIn K (.ref (x_C_Template K)) = true) && (decide (PySem.W.findIn K (.ref (x_C_Template K)) "__eq__" = some (some (.ref (x_a_Template___eq__ K)))) && (decide (PySem.W.codeIn K (x_cd_Template___eq__ K) "Template.__eq__" = true) && (decide (PySem.W.keepIn K (.ref (x_a_Template___eq__ K)) = true) && (decide (PySem.W.isFn K (.ref (x_a_Template___eq__ K)) = true) && (decide (PySem.W.findIn K (.ref (x_C_Template K)) "put_rows" = some (some (.ref (x_p_Template_put_rows_ K)))) && (decide (PySem.W.specialIn K (.ref (x_p_Template_put_rows_ K)) "__get__" = some (some (.builtin "property.__get__"))) && (decide (PySem.W.takesIn K (.ref (x_p_Template_put_rows_ K)) = some true) && (decide (PySem.W.recIn K (x_p_Template_put_rows_ K) "property" = some (.ref (x_a_Template_put_rows K) :: (x_re_Template_put_rows K))) && (decide (PySem.W.codeIn K (x_cd_Template_put_rows K) "Template.put_rows" = true) && (decide (PySem.W.keepIn K (.ref (x_a_Template_put_rows K)) = true) && (decide (PySem.W.findIn K (.ref (x_C_Template K)) "taken_rows" = some (some (.ref (x_p_Template_taken_rows_ K)))) && (decide (PySem.W.specialIn K (.ref (x_p_Template_taken_rows_ K)) "__get__" = some (some (.builtin "property.__get__"))) && (decide (PySem.W.takesIn K (.ref (x_p_Template_taken_rows_ K)) = some true) && (decide (PySem.W.recIn K (x_p_Template_taken_rows_ K) "property" = some (.ref (x_a_Template_taken_rows K) :: (x_re_Template_taken_rows K))) && (decide (PySem.W.codeIn K (x_cd_Template_taken_rows K) "Template.taken_rows" = true) && (decide (PySem.W.keepIn K (.ref (x_a_Template_taken_rows K)) = true) && (decide (PySem.W.findIn K (.ref (x_C_Template K)) "parameters" = some (some (.ref (x_p_Template_parameters_ K)))) && (decide (PySem.W.specialIn K (.ref (x_p_Template_parameters_ K)) "__get__" = some (some (.builtin "property.__get__"))) && (decide (PySem.W.takesIn K (.ref (x_p_Template_parameters_ K)) = some true) && (decide (PySem.W.recIn K (x_p_Template_parameters_ K) "property" = some (.ref (x_a_Template_parameters K) :: (x_re_Template_parameters K))) && (decide (PySem.W.codeIn K (x_cd_Template_parameters K) "Template.parameters" = true) && (decide (PySem.W.keepIn K (.ref (x_a_Template_parameters K)) = true) && (decide (PySem.W.nsIn K mainGlobals "_law_pen" = some (some (.ref (x_a__law_pen K)))) && (decide (PySem.W.codeIn K (x_cd__law_pen K) "_law_pen" = true) && (decide (PySem.W.keepIn K (.ref (x_a__law_pen K)) = true) && (decide (PySem.W.nsIn K mainGlobals "_law_draw" = some (some (.ref (x_a__law_draw K)))))))))))))))))))))))))))))))))
theorem ck2_ok {K : Frg} (c : ck2 K = true) : (PySem.W.keepIn K (.ref (x_a_Template___init__ K)) = true) ∧ (PySem.W.isFn K (.ref (x_a_Template___init__ K)) = true) ∧ (PySem.W.makesIn K (x_C_Template K) = true) ∧ (PySem.W.keepIn K (.ref (x_C_Template K)) = true) ∧ (PySem.W.findIn K (.ref (x_C_Template K)) "__eq__" = some (some (.ref (x_a_Template___eq__ K)))) ∧ (PySem.W.codeIn K (x_cd_Template___eq__ K) "Template.__eq__" = true) ∧ (PySem.W.keepIn K (.ref (x_a_Template___eq__ K)) = true) ∧ (PySem.W.isFn K (.ref (x_a_Template___eq__ K)) = true) ∧ (PySem.W.findIn K (.ref (x_C_Template K)) "put_rows" = some (some (.ref (x_p_Template_put_rows_ K)))) ∧ (PySem.W.specialIn K (.ref (x_p_Template_put_rows_ K)) "__get__" = some (some (.builtin "property.__get__"))) ∧ (PySem.W.takesIn K (.ref (x_p_Template_put_rows_ K)) = some true) ∧ (PySem.W.recIn K (x_p_Template_put_rows_ K) "property" = some (.ref (x_a_Template_put_rows K) :: (x_re_Template_put_rows K))) ∧ (PySem.W.codeIn K (x_cd_Template_put_rows K) "Template.put_rows" = true) ∧ (PySem.W.keepIn K (.ref (x_a_Template_put_rows K)) = true) ∧ (PySem.W.findIn K (.ref (x_C_Template K)) "taken_rows" = some (some (.ref (x_p_Template_taken_rows_ K)))) ∧ (PySem.W.specialIn K (.ref (x_p_Template_taken_rows_ K)) "__get__" = some (some (.builtin "property.__get__"))) ∧ (PySem.W.takesIn K (.ref (x_p_Template_taken_rows_ K)) = some true) ∧ (PySem.W.recIn K (x_p_Template_taken_rows_ K) "property" = some (.ref (x_a_Template_taken_rows K) :: (x_re_Template_taken_rows K))) ∧ (PySem.W.codeIn K (x_cd_Template_taken_rows K) "Template.taken_rows" = true) ∧ (PySem.W.keepIn K (.ref (x_a_Template_taken_rows K)) = true) ∧ (PySem.W.findIn K (.ref (x_C_Template K)) "parameters" = some (some (.ref (x_p_Template_parameters_ K)))) ∧ (PySem.W.specialIn K (.ref (x_p_Template_parameters_ K)) "__get__" = some (some (.builtin "property.__get__"))) ∧ (PySem.W.takesIn K (.ref (x_p_Template_parameters_ K)) = some true) ∧ (PySem.W.recIn K (x_p_Template_parameters_ K) "property" = some (.ref (x_a_Template_parameters K) :: (x_re_Template_parameters K))) ∧ (PySem.W.codeIn K (x_cd_Template_parameters K) "Template.parameters" = true) ∧ (PySem.W.keepIn K (.ref (x_a_Template_parameters K)) = true) ∧ (PySem.W.nsIn K mainGlobals "_law_pen" = some (some (.ref (x_a__law_pen K)))) ∧ (PySem.W.codeIn K (x_cd__law_pen K) "_law_pen" = true) ∧ (PySem.W.keepIn K (.ref (x_a__law_pen K)) = true) ∧ (PySem.W.nsIn K mainGlobals "_law_draw" = some (some (.ref (x_a__law_draw K)))) := by
  unfold ck2 at c
  simp only [Bool.and_eq_true, decide_eq_true_eq] at c
  exact c
def ck3 (K : Frg) : Bool := decide (PySem.W.codeIn K (x_cd__law_draw K) "_law_draw" = true) && (decide (PySem.W.keepIn K (.ref (x_a__law_draw K)) = true) && (decide (PySem.W.nsIn K mainGlobals "_law_pick" = some (some (.ref (x_a__law_pick K)))) && (decide (PySem.W.codeIn K (x_cd__law_pick K) "_law_pick" = true) && (decide (PySem.W.keepIn K (.ref (x_a__law_pick K)) = true) && (decide (PySem.W.nsIn K mainGlobals "_law_qint" = some (some (.ref (x_a__law_qint K)))) && (decide (PySem.W.codeIn K (x_cd__law_qint K) "_law_qint" = true) && (decide (PySem.W.keepIn K (.ref (x_a__law_qint K)) = true) && (decide (PySem.W.nsIn K mainGlobals "_law_qodd" = some (some (.ref (x_a__law_qodd K)))) && (decide (PySem.W.codeIn K (x_cd__law_qodd K) "_law_qodd" = true) && (decide (PySem.W.keepIn K (.ref (x_a__law_qodd K)) = true) && (decide (PySem.W.nsIn K mainGlobals "_law_vused" = some (some (.ref (x_a__law_vused K)))) && (decide (PySem.W.codeIn K (x_cd__law_vused K) "_law_vused" = true) && (decide (PySem.W.keepIn K (.ref (x_a__law_vused K)) = true) && (decide (PySem.W.nsIn K mainGlobals "_law_is_word_here" = some (some (.ref (x_a__law_is_word_here K)))) && (decide (PySem.W.codeIn K (x_cd__law_is_word_here K) "_law_is_word_here" = true) && (decide (PySem.W.keepIn K (.ref (x_a__law_is_word_here K)) = true) && (decide (PySem.W.nsIn K mainGlobals "_law_is_entry" = some (some (.ref (x_a__law_is_entry K)))) && (decide (PySem.W.codeIn K (x_cd__law_is_entry K) "_law_is_entry" = true) && (decide (PySem.W.keepIn K (.ref (x_a__law_is_entry K)) = true) && (decide (PySem.W.nsIn K mainGlobals "_law_due" = some (some (.ref (x_a__law_due K)))) && (decide (PySem.W.codeIn K (x_cd__law_due K) "_law_due" = true) && (decide (PySem.W.keepIn K (.ref (x_a__law_due K)) = true) && (decide (PySem.W.nsIn K mainGlobals "_law_told" = some (some (.ref (x_a__law_told K)))) && (decide (PySem.W.codeIn K (x_cd__law_told K) "_law_told" = true) && (decide (PySem.W.keepIn K (.ref (x_a__law_told K)) = true) && (decide (PySem.W.nsIn K mainGlobals "_law_entry" = some (some (.ref (x_a__law_entry K)))) && (decide (PySem.W.codeIn K (x_cd__law_entry K) "_law_entry" = true) && (decide (PySem.W.keepIn K (.ref (x_a__law_entry K)) = true) && (decide (PySem.W.nsIn K mainGlobals "_law_bad" = some (some (.ref (x_a__law_bad K)))))))))))))))))))))))))))))))))
theorem ck3_ok {K : Frg} (c : ck3 K = true) : (PySem.W.codeIn K (x_cd__law_draw K) "_law_draw" = true) ∧ (PySem.W.keepIn K (.ref (x_a__law_draw K)) = true) ∧ (PySem.W.nsIn K mainGlobals "_law_pick" = some (some (.ref (x_a__law_pick K)))) ∧ (PySem.W.codeIn K (x_cd__law_pick K) "_law_pick" = true) ∧ (PySem.W.keepIn K (.ref (x_a__law_pick K)) = true) ∧ (PySem.W.nsIn K mainGlobals "_law_qint" = some (some (.ref (x_a__law_qint K)))) ∧ (PySem.W.codeIn K (x_cd__law_qint K) "_law_qint" = true) ∧ (PySem.W.keepIn K (.ref (x_a__law_qint K)) = true) ∧ (PySem.W.nsIn K mainGlobals "_law_qodd" = some (some (.ref (x_a__law_qodd K)))) ∧ (PySem.W.codeIn K (x_cd__law_qodd K) "_law_qodd" = true) ∧ (PySem.W.keepIn K (.ref (x_a__law_qodd K)) = true) ∧ (PySem.W.nsIn K mainGlobals "_law_vused" = some (some (.ref (x_a__law_vused K)))) ∧ (PySem.W.codeIn K (x_cd__law_vused K) "_law_vused" = true) ∧ (PySem.W.keepIn K (.ref (x_a__law_vused K)) = true) ∧ (PySem.W.nsIn K mainGlobals "_law_is_word_here" = some (some (.ref (x_a__law_is_word_here K)))) ∧ (PySem.W.codeIn K (x_cd__law_is_word_here K) "_law_is_word_here" = true) ∧ (PySem.W.keepIn K (.ref (x_a__law_is_word_here K)) = true) ∧ (PySem.W.nsIn K mainGlobals "_law_is_entry" = some (some (.ref (x_a__law_is_entry K)))) ∧ (PySem.W.codeIn K (x_cd__law_is_entry K) "_law_is_entry" = true) ∧ (PySem.W.keepIn K (.ref (x_a__law_is_entry K)) = true) ∧ (PySem.W.nsIn K mainGlobals "_law_due" = some (some (.ref (x_a__law_due K)))) ∧ (PySem.W.codeIn K (x_cd__law_due K) "_law_due" = true) ∧ (PySem.W.keepIn K (.ref (x_a__law_due K)) = true) ∧ (PySem.W.nsIn K mainGlobals "_law_told" = some (some (.ref (x_a__law_told K)))) ∧ (PySem.W.codeIn K (x_cd__law_told K) "_law_told" = true) ∧ (PySem.W.keepIn K (.ref (x_a__law_told K)) = true) ∧ (PySem.W.nsIn K mainGlobals "_law_entry" = some (some (.ref (x_a__law_entry K)))) ∧ (PySem.W.codeIn K (x_cd__law_entry K) "_law_entry" = true) ∧ (PySem.W.keepIn K (.ref (x_a__law_entry K)) = true) ∧ (PySem.W.nsIn K mainGlobals "_law_bad" = some (some (.ref (x_a__law_bad K)))) := by
  unfold ck3 at c
  simp only [Bool.and_eq_true, decide_eq_true_eq] at c
  exact c
def ck4 (K : Frg) : Bool := decide (PySem.W.codeIn K (x_cd__law_bad K) "_law_bad" = true) && (decide (PySem.W.keepIn K (.ref (x_a__law_bad K)) = true) && (decide (PySem.W.nsIn K mainGlobals "_law_same" = some (some (.ref (x_a__law_same K)))) && (decide (PySem.W.codeIn K (x_cd__law_same K) "_law_same" = true) && (decide (PySem.W.keepIn K (.ref (x_a__law_same K)) = true) && (decide (PySem.W.nsIn K mainGlobals "law" = some (some (.ref (x_a_law K)))) && (decide (PySem.W.codeIn K (x_cd_law K) "law" = true) && (decide (PySem.W.keepIn K (.ref (x_a_law K)) = true) && (decide (PySem.W.findIn K (.ref (x_C_Template K)) "__ne__" = some (some (.builtin "object.__ne__"))) && (decide (PySem.W.subIn K (.ref (x_C_Template K)) (.type "object") = some true) && (decide (PySem.W.notFirst K (x_C_Template K) (.type "NoneType") = true) && (decide (PySem.W.notFirst K (x_C_Template K) (.type "tuple") = true) && (decide (PySem.W.findIn K (.ref (x_C_InvalidTemplate K)) "__getattribute__" = some (some (.builtin "BaseException.__getattribute__"))) && (decide (PySem.W.findIn K (.ref (x_C_InvalidTemplate K)) "__getattr__" = some none) && (decide (PySem.W.findIn K (.ref (x_C_InvalidTemplate K)) "__class__" = some (some (.builtin "object.__class__"))) && (decide (PySem.W.mroIn K (x_C_InvalidTemplate K) (.type "object") = some true) && (decide (PySem.W.findIn K (.ref (x_C_InvalidTemplate K)) "index" = some none) && (decide (PySem.W.nsIn K mainGlobals "isinstance" = some none) && (decide (PySem.W.nsIn K mainGlobals "str" = some none) && (decide (PySem.W.nsIn K mainGlobals "len" = some none) && (decide (PySem.W.nsIn K mainGlobals "all" = some none) && (decide (PySem.W.nsIn K mainGlobals "list" = some none) && (decide (PySem.W.nsIn K mainGlobals "tuple" = some none) && (decide (PySem.W.nsIn K mainGlobals "enumerate" = some none) && (decide (PySem.W.nsIn K mainGlobals "range" = some none) && (decide (PySem.W.nsIn K mainGlobals "int" = some none) && (decide (PySem.W.nsIn K mainGlobals "abs" = some none) && (decide (PySem.W.nsIn K mainGlobals "repr" = some none) && (decide (PySem.W.nsIn K mainGlobals "sorted" = some none) && (decide (PySem.W.nsIn K mainGlobals "set" = some none))))))))))))))))))))))))))))))
theorem ck4_ok {K : Frg} (c : ck4 K = true) : (PySem.W.codeIn K (x_cd__law_bad K) "_law_bad" = true) ∧ (PySem.W.keepIn K (.ref (x_a__law_bad K)) = true) ∧ (PySem.W.nsIn K mainGlobals "_law_same" = some (some (.ref (x_a__law_same K)))) ∧ (PySem.W.codeIn K (x_cd__law_same K) "_law_same" = true) ∧ (PySem.W.keepIn K (.ref (x_a__law_same K)) = true) ∧ (PySem.W.nsIn K mainGlobals "law" = some (some (.ref (x_a_law K)))) ∧ (PySem.W.codeIn K (x_cd_law K) "law" = true) ∧ (PySem.W.keepIn K (.ref (x_a_law K)) = true) ∧ (PySem.W.findIn K (.ref (x_C_Template K)) "__ne__" = some (some (.builtin "object.__ne__"))) ∧ (PySem.W.subIn K (.ref (x_C_Template K)) (.type "object") = some true) ∧ (PySem.W.notFirst K (x_C_Template K) (.type "NoneType") = true) ∧ (PySem.W.notFirst K (x_C_Template K) (.type "tuple") = true) ∧ (PySem.W.findIn K (.ref (x_C_InvalidTemplate K)) "__getattribute__" = some (some (.builtin "BaseException.__getattribute__"))) ∧ (PySem.W.findIn K (.ref (x_C_InvalidTemplate K)) "__getattr__" = some none) ∧ (PySem.W.findIn K (.ref (x_C_InvalidTemplate K)) "__class__" = some (some (.builtin "object.__class__"))) ∧ (PySem.W.mroIn K (x_C_InvalidTemplate K) (.type "object") = some true) ∧ (PySem.W.findIn K (.ref (x_C_InvalidTemplate K)) "index" = some none) ∧ (PySem.W.nsIn K mainGlobals "isinstance" = some none) ∧ (PySem.W.nsIn K mainGlobals "str" = some none) ∧ (PySem.W.nsIn K mainGlobals "len" = some none) ∧ (PySem.W.nsIn K mainGlobals "all" = some none) ∧ (PySem.W.nsIn K mainGlobals "list" = some none) ∧ (PySem.W.nsIn K mainGlobals "tuple" = some none) ∧ (PySem.W.nsIn K mainGlobals "enumerate" = some none) ∧ (PySem.W.nsIn K mainGlobals "range" = some none) ∧ (PySem.W.nsIn K mainGlobals "int" = some none) ∧ (PySem.W.nsIn K mainGlobals "abs" = some none) ∧ (PySem.W.nsIn K mainGlobals "repr" = some none) ∧ (PySem.W.nsIn K mainGlobals "sorted" = some none) ∧ (PySem.W.nsIn K mainGlobals "set" = some none) := by
  unfold ck4 at c
  simp only [Bool.and_eq_true, decide_eq_true_eq] at c
  exact c
def ck5 (K : Frg) : Bool := decide (PySem.W.nsIn K mainGlobals "bool" = some none) && (decide (PySem.W.nsIn K mainGlobals "super" = some none) && (decide (PySem.W.nsIn K mainGlobals "ValueError" = some none) && (decide (intQ K "MAX_WORD" 8 = true) && (decide (intQ K "MAX_COLUMNS" 3 = true) && (decide (intQ K "MAX_NAMES" 4 = true) && (decide (strQ K "SMALL" "abcdefghijklmnopqrstuvwxyz" = true) && (decide (PySem.W.exmOne K (.ref (x_C_InvalidTemplate K)) (.ref (x_C_InvalidTemplate K)) = some true))))))))
theorem ck5_ok {K : Frg} (c : ck5 K = true) : (PySem.W.nsIn K mainGlobals "bool" = some none) ∧ (PySem.W.nsIn K mainGlobals "super" = some none) ∧ (PySem.W.nsIn K mainGlobals "ValueError" = some none) ∧ (intQ K "MAX_WORD" 8 = true) ∧ (intQ K "MAX_COLUMNS" 3 = true) ∧ (intQ K "MAX_NAMES" 4 = true) ∧ (strQ K "SMALL" "abcdefghijklmnopqrstuvwxyz" = true) ∧ (PySem.W.exmOne K (.ref (x_C_InvalidTemplate K)) (.ref (x_C_InvalidTemplate K)) = some true) := by
  unfold ck5 at c
  simp only [Bool.and_eq_true, decide_eq_true_eq] at c
  exact c
def ckAll (K : Frg) : Bool := ck0 K && (ck1 K && (ck2 K && (ck3 K && (ck4 K && (ck5 K)))))
theorem ckAll_ok {K : Frg} (c : ckAll K = true) : ck0 K = true ∧ ck1 K = true ∧ ck2 K = true ∧ ck3 K = true ∧ ck4 K = true ∧ ck5 K = true := by
  unfold ckAll at c
  simp only [Bool.and_eq_true] at c
  exact c
def fv0 (K : Frg) : List FnV := [fnV K (x_a_InvalidTemplate___init__ K), fnV K (x_a_is_integer K), fnV K (x_a_is_within K), fnV K (x_a_is_word K), fnV K (x_a_is_list K), fnV K (x_a_is_cell K), fnV K (x_a_is_entry K), fnV K (x_a_parameters_in K), fnV K (x_a_Template___init__ K), fnV K (x_a_Template___eq__ K), fnV K (x_a_Template_put_rows K), fnV K (x_a_Template_taken_rows K), fnV K (x_a_Template_parameters K), fnV K (x_a__law_pen K), fnV K (x_a__law_draw K)]
def vl0 : List FnV := [superV "__init__" "InvalidTemplate.__init__" s_InvalidTemplate___init__, plainV "is_integer" "is_integer" s_is_integer, plainV "is_within" "is_within" s_is_within, plainV "is_word" "is_word" s_is_word, plainV "is_list" "is_list" s_is_list, plainV "is_cell" "is_cell" s_is_cell, plainV "is_entry" "is_entry" s_is_entry, plainV "parameters_in" "parameters_in" s_parameters_in, plainV "__init__" "Template.__init__" s_Template___init__, plainV "__eq__" "Template.__eq__" s_Template___eq__, plainV "put_rows" "Template.put_rows" s_Template_put_rows, plainV "taken_rows" "Template.taken_rows" s_Template_taken_rows, plainV "parameters" "Template.parameters" s_Template_parameters, plainV "_law_pen" "_law_pen" s__law_pen, plainV "_law_draw" "_law_draw" s__law_draw]
def fv1 (K : Frg) : List FnV := [fnV K (x_a__law_pick K), fnV K (x_a__law_qint K), fnV K (x_a__law_qodd K), fnV K (x_a__law_vused K), fnV K (x_a__law_is_word_here K), fnV K (x_a__law_is_entry K), fnV K (x_a__law_due K), fnV K (x_a__law_told K), fnV K (x_a__law_entry K), fnV K (x_a__law_bad K), fnV K (x_a__law_same K), fnV K (x_a_law K)]
def vl1 : List FnV := [plainV "_law_pick" "_law_pick" s__law_pick, plainV "_law_qint" "_law_qint" s__law_qint, plainV "_law_qodd" "_law_qodd" s__law_qodd, plainV "_law_vused" "_law_vused" s__law_vused, plainV "_law_is_word_here" "_law_is_word_here" s__law_is_word_here, plainV "_law_is_entry" "_law_is_entry" s__law_is_entry, plainV "_law_due" "_law_due" s__law_due, plainV "_law_told" "_law_told" s__law_told, plainV "_law_entry" "_law_entry" s__law_entry, plainV "_law_bad" "_law_bad" s__law_bad, plainV "_law_same" "_law_same" s__law_same, plainV "law" "law" s_law]
def fvAll (K : Frg) : List FnV := fv0 K ++ fv1 K
def vlAll : List FnV := vl0 ++ vl1
abbrev hR : PySem.W.OpenRow := PySem.W.OpenLaw.row PySem.Challenge.rw_onlylooks_k73_templates_made
abbrev hq : Program := PySem.W.view hR.prog [34]
def hn0 : List Str := [("_wall" : Str), ("__name__" : Str), ("InvalidTemplate" : Str), ("TooMany" : Str), ("MAX_WORD" : Str), ("MAX_COLUMNS" : Str), ("MAX_NAMES" : Str), ("SMALL" : Str), ("is_integer" : Str), ("is_within" : Str), ("is_word" : Str), ("is_list" : Str), ("is_cell" : Str), ("is_entry" : Str), ("parameters_in" : Str), ("Template" : Str), ("with_parameters" : Str), ("names_of" : Str), ("_law_pen" : Str), ("_law_draw" : Str), ("_law_pick" : Str), ("_law_qint" : Str), ("_law_qodd" : Str), ("_law_vused" : Str), ("_law_is_word_here" : Str)]
def hn1 : List Str := [("_law_is_entry" : Str), ("_law_due" : Str), ("_law_told" : Str), ("_law_entry" : Str), ("_law_bad" : Str), ("_law_same" : Str)]
def hnames : List Str := hn0 ++ hn1
abbrev hk : PySem.W.Hook := hookQ 6 ckAll fvAll vlAll
def hob (s : PySem.W.SharedT) : AlQ := obsQ 6 ckAll fvAll (HandSHeadRun.getT s)
theorem hob_eq (s : PySem.W.SharedT) : hob s = hk.obs s.abs := obsQ_eq (HandSHeadRun.getT_eq s)
end Q
namespace Q
open PySem L2 PySem.Spec PyProof.Rows
theorem hrun (w : World) : HandSHeadRun.RunEq hR hq hk hob 9000 hnames w := by
  intro os
  kernel_rfl
end Q
namespace Q
open PySem L2
/-! ### plain data -/
inductive D where
  | non | bl (b : Bool) | int (i : Int) | str (s : Str) | byt (b : Array UInt8) | ty (n : String)
  | lst (xs : List D) | tup (xs : List D) | dK (kvs : List (Key × D)) | dT (kvs : List (List Key × D))
  | ins (C : Addr) (fs : List (Str × D)) | exc (a d C : Addr) (fs : List (Str × D)) | cell (n : Nat) | cls (a : Addr) | scr (ns : List Int) | rows (n : Nat)
/-- which addresses bear what changes, and what is plain for ever -/
structure Wd where
  /-- the address of each thing; of a database also that of its dict of rows -/
  φ : List (Addr × Addr)
  owns : List (List Addr)
  F : Addr → Prop
  /-- dicts that are locked -/
  L : List (Addr × Obj)
def Wd.own (W : Wd) (a : Addr) : Prop := ∃ w ∈ W.owns, a ∈ w
mutual
inductive Rep (φ : List (Addr × Addr)) (F : Addr → Prop) (H : Hp) : V → D → Prop
  | non : Rep φ F H .non .non
  | bl (b : Bool) : Rep φ F H (.bl b) (.bl b)
  | int (i : Int) : Rep φ F H (.int i) (.int i)
  | str (x : Str) : Rep φ F H (.str x) (.str x)
  | byt (x : Array UInt8) : Rep φ F H (.byt x) (.byt x)
  | ty (n : String) : Rep φ F H (.ty n) (.ty n)
  | cls (a : Addr) : Rep φ F H (.ref a) (.cls a)
  | cell {n : Nat} {a r : Addr} : φ[n]? = some (a, r) → Rep φ F H (.ref a) (.cell n)
  | rows {n : Nat} {a r : Addr} : φ[n]? = some (a, r) → Rep φ F H (.ref r) (.rows n)
  | lst {a : Addr} {xs : List V} {ds : List D} : F a → H a = some (.lst xs) → RepL φ F H xs ds → Rep φ F H (.ref a) (.lst ds)
  | scr {a : Addr} {ns : List Int} : F a → Rd H a (.lst (ns.map V.int)) → Rep φ F H (.ref a) (.scr ns)
  | tup {a : Addr} {xs : List V} {ds : List D} : H a = some (.tup xs) → RepL φ F H xs ds → Rep φ F H (.ref a) (.tup ds)
  | dK {a : Addr} {xs : List (Key × V)} {ds : List (Key × D)} : F a → H a = some (.dK xs) → RepK φ F H xs ds → Rep φ F H (.ref a) (.dK ds)
  | dT {a : Addr} {xs : List (List Key × V)} {ds : List (List Key × D)} : F a → H a = some (.dT xs) → RepT φ F H xs ds → Rep φ F H (.ref a) (.dT ds)
  | ins {a C dx : Addr} {xs : List (Str × V)} {ds : List (Str × D)} : F a → H a = some (.ins C dx xs) → RepF φ F H xs ds → Rep φ F H (.ref a) (.ins C ds)
  /-- a caught error at a, its fields at d -/
  | exc {a d C : Addr} {xs : List (Str × V)} {ds : List (Str × D)} : F d → H d = some (.xd xs) → RepF φ F H xs ds → Rep φ F H (.ref a) (.exc a d C ds)
inductive RepL (φ : List (Addr × Addr)) (F : Addr → Prop) (H : Hp) : List V → List D → Prop
  | nil : RepL φ F H [] []
  | cons {v : V} {d : D} {vs : List V} {ds : List D} : Rep φ F H v d → RepL φ F H vs ds → RepL φ F H (v :: vs) (d :: ds)
inductive RepK (φ : List (Addr × Addr)) (F : Addr → Prop) (H : Hp) : List (Key × V) → List (Key × D) → Prop
  | nil : RepK φ F H [] []
  | cons {k : Key} {v : V} {d : D} {vs : List (Key × V)} {ds : List (Key × D)} : Rep φ F H v d → RepK φ F H vs ds → RepK φ F H ((k, v) :: vs) ((k, d) :: ds)
inductive RepT (φ : List (Addr × Addr)) (F : Addr → Prop) (H : Hp) : List (List Key × V) → List (List Key × D) → Prop
  | nil : RepT φ F H [] []
  | cons {k : List Key} {v : V} {d : D} {vs : List (List Key × V)} {ds : List (List Key × D)} : Rep φ F H v d → RepT φ F H vs ds → RepT φ F H ((k, v) :: vs) ((k, d) :: ds)
inductive RepF (φ : List (Addr × Addr)) (F : Addr → Prop) (H : Hp) : List (Str × V) → List (Str × D) → Prop
  | nil : RepF φ F H [] []
  | cons {k : Str} {v : V} {d : D} {vs : List (Str × V)} {ds : List (Str × D)} : Rep φ F H v d → RepF φ F H vs ds → RepF φ F H ((k, v) :: vs) ((k, d) :: ds)
end
/-- later: what was plain stays plain -/
structure Fut (φ : List (Addr × Addr)) (F : Addr → Prop) (H : Hp) (φ' : List (Addr × Addr)) (F' : Addr → Prop) (H' : Hp) : Prop where
  cells : ∀ (n : Nat) (a : Addr × Addr), φ[n]? = some a → φ'[n]? = some a
  sub : ∀ a, F a → F' a
  keep : ∀ a o, F a → H a = some o → H' a = some o
  tups : ∀ a xs, H a = some (.tup xs) → H' a = some (.tup xs)
theorem Fut.rd {φ F H φ' F' H'} (f : Fut φ F H φ' F' H') {a : Addr} {u : HO} (hF : F a) (h : Rd H a u) : Rd H' a u := by
  rcases h with h | ⟨o, h⟩
  · exact .inl (f.keep a _ hF h)
  · exact .inr ⟨o, f.keep a _ hF h⟩
mutual
theorem Rep.fut {φ F H φ' F' H'} (f : Fut φ F H φ' F' H') : ∀ {d : D} {v : V}, Rep φ F H v d → Rep φ' F' H' v d
  | .non, _, h => by cases h; exact .non
  | .bl b, _, h => by cases h; exact .bl b
  | .int b, _, h => by cases h; exact .int b
  | .str b, _, h => by cases h; exact .str b
  | .byt b, _, h => by cases h; exact .byt b
  | .ty b, _, h => by cases h; exact .ty b
  | .cls b, _, h => by cases h; exact .cls b
  | .cell n, _, h => by
    cases h with
    | cell e => exact .cell (f.cells _ _ e)
  | .rows n, _, h => by
    cases h with
    | rows e => exact .rows (f.cells _ _ e)
  | .lst ds, _, h => by
    cases h with
    | lst h1 h2 h3 => exact .lst (f.sub _ h1) (f.keep _ _ h1 h2) (RepL.fut f h3)
  | .scr ns, _, h => by
    cases h with
    | scr h1 h2 => exact .scr (f.sub _ h1) (f.rd h1 h2)
  | .tup ds, _, h => by
    cases h with
    | tup h2 h3 => exact .tup (f.tups _ _ h2) (RepL.fut f h3)
  | .dK ds, _, h => by
    cases h with
    | dK h1 h2 h3 => exact .dK (f.sub _ h1) (f.keep _ _ h1 h2) (RepK.fut f h3)
  | .dT ds, _, h => by
    cases h with
    | dT h1 h2 h3 => exact .dT (f.sub _ h1) (f.keep _ _ h1 h2) (RepT.fut f h3)
  | .ins C ds, _, h => by
    cases h with
    | ins h1 h2 h3 => exact .ins (f.sub _ h1) (f.keep _ _ h1 h2) (RepF.fut f h3)
  | .exc a d C ds, _, h => by
    cases h with
    | exc h1 h2 h3 => exact .exc (f.sub _ h1) (f.keep _ _ h1 h2) (RepF.fut f h3)
theorem RepL.fut {φ F H φ' F' H'} (f : Fut φ F H φ' F' H') : ∀ {ds : List D} {vs : List V}, RepL φ F H vs ds → RepL φ' F' H' vs ds
  | [], _, h => by cases h; exact .nil
  | d :: ds, _, h => by
    cases h with
    | cons h1 h2 => exact .cons (Rep.fut f h1) (RepL.fut f h2)
theorem RepK.fut {φ F H φ' F' H'} (f : Fut φ F H φ' F' H') : ∀ {ds : List (Key × D)} {vs : List (Key × V)}, RepK φ F H vs ds → RepK φ' F' H' vs ds
  | [], _, h => by cases h; exact .nil
  | (k, d) :: ds, _, h => by
    cases h with
    | cons h1 h2 => exact .cons (Rep.fut f h1) (RepK.fut f h2)
theorem RepT.fut {φ F H φ' F' H'} (f : Fut φ F H φ' F' H') : ∀ {ds : List (List Key × D)} {vs : List (List Key × V)}, RepT φ F H vs ds → RepT φ' F' H' vs ds
  | [], _, h => by cases h; exact .nil
  | (k, d) :: ds, _, h => by
    cases h with
    | cons h1 h2 => exact .cons (Rep.fut f h1) (RepT.fut f h2)
theorem RepF.fut {φ F H φ' F' H'} (f : Fut φ F H φ' F' H') : ∀ {ds : List (Str × D)} {vs : List (Str × V)}, RepF φ F H vs ds → RepF φ' F' H' vs ds
  | [], _, h => by cases h; exact .nil
  | (k, d) :: ds, _, h => by
    cases h with
    | cons h1 h2 => exact .cons (Rep.fut f h1) (RepF.fut f h2)
end
end Q
namespace Q
open PySem L2
/-! ### things that change, kept in a store -/
abbrev penK (c : Addr) (t l : Int) : List (Key × V) := [(Sum.inr "cells", .ref c), (Sum.inr "turn", .int t), (Sum.inr "left", .int l)]
inductive Cell where
  /-- the source of draws: at most n of them were made -/
  | pen (n : Nat)
  /-- a database: where it lies, its class, its schema, the rows of its tables -/
  | db (x C : Addr) (sch : D) (rows : List (Str × List (List Key)))
  /-- the table of code objects at P, each of the name q -/
  | tbl (P : Addr) (q : Str)
  /-- a dict that may be emptied -/
  | dct (kvs : List (Key × D))
def TblAt (F : Addr → Prop) (H : Hp) (P : Addr) (q : Str) : Prop := ∃ ps : Array Value, H P = some (.tbl ps) ∧ TriplesOk ps.toList ∧ ∀ (pos : Pos) (cv : Value), codeAmong pos ps.toList = some cv → ∃ c, cv = .ref c ∧ F c ∧ H c = some (LamX.CodeO c q)
/-- the tables of a database: names, keys, their dicts -/
inductive TabsAt (H : Hp) : List (Key × V) → List (Str × List (List Key)) → List Addr → Prop
  | nil : TabsAt H [] [] []
  | cons {t : Addr} {n : Str} {ks : List (List Key)} {kvs : List (Key × V)} {rows : List (Str × List (List Key))} {ts : List Addr} : H t = some (.dT (ks.map fun k => (k, .bl true))) → TabsAt H kvs rows ts → TabsAt H ((Sum.inr n, .ref t) :: kvs) ((n, ks) :: rows) (t :: ts)
def CellRep (φ : List (Addr × Addr)) (F : Addr → Prop) (H : Hp) (a : Addr × Addr) (w : List Addr) : Cell → Prop
  | .pen n => w = [a.1] ∧ ∃ (c : Addr) (cells : List Int) (t l : Int), F c ∧ H a.1 = some (.dK (penK c t l)) ∧ H c = some (.lst (cells.map V.int)) ∧ cells.length ≤ 63 ∧ 0 ≤ t ∧ t ≤ (n : Int) ∧ 0 ≤ l
  | .db x C sch rows => ∃ (dx : Addr) (vs : V) (kvs : List (Key × V)) (ts : List Addr), w = a.1 :: a.2 :: ts ∧ w.Nodup ∧ H a.1 = some (.ins C dx [("own_schema", vs), ("own_rows", .ref a.2)]) ∧ Rep φ F H vs sch ∧ H a.2 = some (.dK kvs) ∧ TabsAt H kvs rows ts ∧ (rows.map (·.1)).Nodup ∧ x = a.1
  | .tbl P q => w = [P] ∧ a.1 = P ∧ TblAt F H P q
  | .dct kvs => w = [a.1] ∧ ∃ xs, H a.1 = some (.dK xs) ∧ RepK φ F H xs kvs
theorem TabsAt.fut {H H' : Hp} : ∀ {kvs : List (Key × V)} {rows : List (Str × List (List Key))} {ts : List Addr}, (∀ a ∈ ts, H' a = H a) → TabsAt H kvs rows ts → TabsAt H' kvs rows ts
  | _, _, _, _, .nil => .nil
  | _, _, _, e, .cons h t => .cons ((e _ List.mem_cons_self).trans h) (t.fut fun a ha => e a (List.mem_cons_of_mem _ ha))
theorem CellRep.fut {φ F H φ' F' H'} (f : Fut φ F H φ' F' H') {a : Addr × Addr} {w : List Addr} {c : Cell} (e : ∀ x ∈ w, H' x = H x) (h : CellRep φ F H a w c) : CellRep φ' F' H' a w c := by
  cases c with
  | pen n =>
    obtain ⟨rfl, c, cells, t, l, h1, h2, h3, h4⟩ := h
    exact ⟨rfl, c, cells, t, l, f.sub _ h1, (e _ List.mem_cons_self).trans h2, f.keep _ _ h1 h3, h4⟩
  | db x C sch rows =>
    obtain ⟨dx, vs, kvs, ts, rfl, h1, h2, h3, h4, h5, h6⟩ := h
    exact ⟨dx, vs, kvs, ts, rfl, h1, (e _ List.mem_cons_self).trans h2, h3.fut f, (e _ (List.mem_cons_of_mem _ List.mem_cons_self)).trans h4, h5.fut fun a ha => e _ (List.mem_cons_of_mem _ (List.mem_cons_of_mem _ ha)), h6⟩
  | tbl P q =>
    obtain ⟨rfl, ha, ps, h1, h2, h3⟩ := h
    refine ⟨rfl, ha, ps, (e _ List.mem_cons_self).trans h1, h2, fun pos cv hc => ?_⟩
    obtain ⟨c, e1, e2, e3⟩ := h3 pos cv hc
    exact ⟨c, e1, f.sub _ e2, f.keep _ _ e2 e3⟩
  | dct kvs =>
    obtain ⟨rfl, xs, h1, h2⟩ := h
    exact ⟨rfl, xs, (e _ List.mem_cons_self).trans h1, h2.fut f⟩
/-- the kinds of things that may be changed -/
def mutO : HO → Bool
  | .lst _ => true
  | .dK _ => true
  | .dT _ => true
  | .ins _ _ _ => true
  | .tbl _ => true
  | _ => false
theorem TabsAt.mem {H : Hp} : ∀ {kvs : List (Key × V)} {rows : List (Str × List (List Key))} {ts : List Addr}, TabsAt H kvs rows ts → ∀ t ∈ ts, ∃ o, H t = some o ∧ mutO o = true
  | _, _, _, .nil, t, h => absurd h List.not_mem_nil
  | _, _, _, .cons h r, t, ht => (List.mem_cons.mp ht).elim (fun e => by subst e; exact ⟨_, h, rfl⟩) fun z => r.mem t z
theorem CellRep.there {φ F H} {a : Addr × Addr} {w : List Addr} {c : Cell} (h : CellRep φ F H a w c) : ∀ x ∈ w, ∃ o, H x = some o ∧ mutO o = true := by
  cases c with
  | pen n =>
    obtain ⟨rfl, c, cells, t, l, h1, h2, h3, h4⟩ := h
    intro x hx
    rw [List.mem_singleton.mp hx]
    exact ⟨_, h2, rfl⟩
  | db x C sch rows =>
    obtain ⟨dx, vs, kvs, ts, rfl, h1, h2, h3, h4, h5, h6⟩ := h
    intro y hx
    rcases List.mem_cons.mp hx with e | hx
    · rw [e]; exact ⟨_, h2, rfl⟩
    · rcases List.mem_cons.mp hx with e | hx
      · rw [e]; exact ⟨_, h4, rfl⟩
      · exact h5.mem y hx
  | tbl P q =>
    obtain ⟨rfl, ha, ps, h1, _⟩ := h
    intro x hx
    rw [List.mem_singleton.mp hx]
    exact ⟨_, h1, rfl⟩
  | dct kvs =>
    obtain ⟨rfl, xs, h1, _⟩ := h
    intro x hx
    rw [List.mem_singleton.mp hx]
    exact ⟨_, h1, rfl⟩
/-! ### states -/
/-- a slot: not yet told, plain data, or a thing that the slot alone bears -/
inductive O where
  | un | d (x : D) | lst (xs : List D) | dK (kvs : List (Key × D)) | dT (kvs : List (List Key × D)) | ins (x : Addr) (C : Addr) (fs : List (Str × D))
def O.owned : O → Bool
  | .un => false
  | .d _ => false
  | _ => true
def O.toD : O → D
  | .un => .non
  | .d x => x
  | .lst xs => .lst xs
  | .dK kvs => .dK kvs
  | .dT kvs => .dT kvs
  | .ins _ C fs => .ins C fs
structure Ps where
  ρ : List O
  S : List Cell
  rw : Bool
  /-- the cells' tables are read as plain data -/
  vw : Bool
abbrev Rp (W : Wd) (H : Hp) (v : V) (d : D) : Prop := Rep W.φ W.F H v d
/-- what a slot's own thing is -/
def OwnAt (W : Wd) (H : Hp) (a : Addr) : O → Prop
  | .lst ds => ∃ xs, H a = some (.lst xs) ∧ RepL W.φ W.F H xs ds
  | .dK ds => ∃ xs, H a = some (.dK xs) ∧ RepK W.φ W.F H xs ds
  | .dT ds => ∃ xs, H a = some (.dT xs) ∧ RepT W.φ W.F H xs ds
  | .ins x C ds => x = a ∧ ∃ dx xs, H a = some (.ins C dx xs) ∧ RepF W.φ W.F H xs ds
  | _ => False
def SlotOk (W : Wd) (H : Hp) (o : O) (x : Option V) : Prop :=
  match o with
  | .un => True
  | .d y => ∃ v, x = some v ∧ Rp W H v y
  | o => ∃ a, x = some (.ref a) ∧ OwnAt W H a o
def slotOwns (ρ : List O) (σ : L2.St) (i : Nat) (a : Addr) : Prop := ∃ o, ρ[i]? = some o ∧ o.owned = true ∧ σ[i]? = some (some (.ref a))
theorem OwnAt.there {W : Wd} {H : Hp} {a : Addr} {o : O} (h : OwnAt W H a o) : ∃ u, H a = some u ∧ mutO u = true := by
  cases o with
  | un => exact h.elim
  | d x => exact h.elim
  | lst _ => obtain ⟨_, h, _⟩ := h; exact ⟨_, h, rfl⟩
  | dK _ => obtain ⟨_, h, _⟩ := h; exact ⟨_, h, rfl⟩
  | dT _ => obtain ⟨_, h, _⟩ := h; exact ⟨_, h, rfl⟩
  | ins _ _ _ => obtain ⟨_, _, _, h, _⟩ := h; exact ⟨_, h, rfl⟩
theorem OwnAt.fut {W W' : Wd} {H H' : Hp} (f : Fut W.φ W.F H W'.φ W'.F H') {a : Addr} {o : O} (e : H' a = H a) (h : OwnAt W H a o) : OwnAt W' H' a o := by
  cases o with
  | un => exact h
  | d x => exact h
  | lst _ => obtain ⟨_, h, g⟩ := h; exact ⟨_, e.trans h, g.fut f⟩
  | dK _ => obtain ⟨_, h, g⟩ := h; exact ⟨_, e.trans h, g.fut f⟩
  | dT _ => obtain ⟨_, h, g⟩ := h; exact ⟨_, e.trans h, g.fut f⟩
  | ins _ _ _ => obtain ⟨z, _, _, h, g⟩ := h; exact ⟨z, _, _, e.trans h, g.fut f⟩
theorem SlotOk.of_own {W : Wd} {H : Hp} {a : Addr} {o : O} (ho : o.owned = true) (h : OwnAt W H a o) : SlotOk W H o (some (.ref a)) := by
  cases o with
  | un => cases ho
  | d x => cases ho
  | lst _ => exact ⟨a, rfl, h⟩
  | dK _ => exact ⟨a, rfl, h⟩
  | dT _ => exact ⟨a, rfl, h⟩
  | ins _ _ _ => exact ⟨a, rfl, h⟩
theorem SlotOk.own {W : Wd} {H : Hp} {o : O} {x : Option V} (ho : o.owned = true) (h : SlotOk W H o x) : ∃ a, x = some (.ref a) ∧ OwnAt W H a o := by
  cases o with
  | un => cases ho
  | d x => cases ho
  | lst _ => exact h
  | dK _ => exact h
  | dT _ => exact h
  | ins _ _ _ => exact h
/-- from one state to a later one, while the slots' own things stay as they are; rw: the cells may change -/
structure Step (rw : Bool) (W : Wd) (H : Hp) (W' : Wd) (H' : Hp) : Prop where
  cells : ∀ (n : Nat) (a : Addr × Addr), W.φ[n]? = some a → W'.φ[n]? = some a
  sub : ∀ a, W.F a → W'.F a
  keep : ∀ a o, H a = some o → (rw = true → ¬ W.own a) → H' a = some o
  tups : ∀ a xs, H a = some (.tup xs) → H' a = some (.tup xs)
  dom : ∀ a, H a ≠ none → H' a ≠ none
  ownNew : ∀ a, W'.own a → W.own a ∨ (rw = true ∧ H a = none)
  locks : ∃ more, W'.L = more ++ W.L
  ownOld : ∀ a, W.own a → W'.own a ∨ rw = true
theorem Step.refl (rw : Bool) (W : Wd) (H : Hp) : Step rw W H W H := ⟨fun _ _ e => e, fun _ h => h, fun _ _ e _ => e, fun _ _ e => e, fun _ h => h, fun _ h => .inl h, ⟨[], rfl⟩, fun _ h => .inl h⟩
theorem Step.trans {rw : Bool} {W W1 W2 : Wd} {H H1 H2 : Hp} (a : Step rw W H W1 H1) (b : Step rw W1 H1 W2 H2) : Step rw W H W2 H2 where
  cells := fun n x e => b.cells n x (a.cells n x e)
  sub := fun x h => b.sub x (a.sub x h)
  keep := fun x o e n => b.keep x o (a.keep x o e n) fun hr ho => (a.ownNew x ho).elim (n hr) fun z => by rw [e] at z; cases z.2
  tups := fun x xs e => b.tups x xs (a.tups x xs e)
  dom := fun x h => b.dom x (a.dom x h)
  ownNew := fun x h => (b.ownNew x h).elim (a.ownNew x) fun z => .inr ⟨z.1, Classical.byContradiction fun y => a.dom x y z.2⟩
  locks := by
    obtain ⟨m1, e1⟩ := a.locks
    obtain ⟨m2, e2⟩ := b.locks
    exact ⟨m2 ++ m1, by rw [e2, e1, List.append_assoc]⟩
  ownOld := fun x h => (a.ownOld x h).elim (b.ownOld x) .inr
/-- where a body starts: the world, the heap; whether the cells may change; what is wanted of an error -/
structure C0 where
  W0 : Wd
  H0 : Hp
  rw : Bool
  E : Addr → List (Str × D) → Ps → Prop
  /-- new things that nobody bears yet -/
  R : Addr → Prop
def lockH (L : List (Addr × Obj)) (H : Hp) : Hp := fun a => match L.lookup a with
  | some o => (H a).map (HO.frz o)
  | none => H a
def dictO : HO → Bool
  | .dK _ => true
  | .dT _ => true
  | _ => false
/-- the store lies in the heap -/
structure Base (rw : Bool) (W : Wd) (S : List Cell) (H : Hp) : Prop where
  fdom : ∀ a, W.F a → ∃ o, H a = some o
  len : W.φ.length = S.length ∧ W.owns.length = S.length
  cell : ∀ (n : Nat) (a : Addr × Addr) (x : Cell) (w : List Addr), W.φ[n]? = some a → S[n]? = some x → W.owns[n]? = some w → CellRep W.φ W.F H a w x
  apart : ∀ (m n : Nat) (w w' : List Addr) (x : Addr), W.owns[m]? = some w → W.owns[n]? = some w' → x ∈ w → x ∈ w' → m = n
  ownF : rw = true → ∀ a, W.own a → ¬ W.F a
  lN : (W.L.map (·.1)).Nodup
  lF : ∀ a o, W.L.lookup a = some o → (W.F a ∨ rw = false ∧ W.own a) ∧ ∃ u, H a = some u ∧ dictO u = true
structure Pre (c : C0) (W : Wd) (st : Ps) (σ : L2.St) (H : Hp) : Prop where
  hrw : st.rw = c.rw
  step : Step c.rw c.W0 c.H0 W H
  new : ∀ a, W.F a → c.W0.F a ∨ c.H0 a = none
  base : Base c.rw W st.S H
  slen : st.ρ.length = σ.length
  slot : ∀ (i : Nat) (o : O), st.ρ[i]? = some o → SlotOk W H o (σ[i]?.join)
  sown : ∀ i a, slotOwns st.ρ σ i a → ¬ W.F a ∧ ¬ W.own a ∧ c.H0 a = none
  sapart : ∀ i j a, slotOwns st.ρ σ i a → slotOwns st.ρ σ j a → i = j
  rsv : ∀ a, c.R a → ¬ W.F a ∧ ¬ W.own a ∧ (∃ o, H a = some o) ∧ ∀ i, ¬ slotOwns st.ρ σ i a
  hvw : st.vw = true → c.rw = false ∧ ∀ a, W.own a → W.F a
  own0 : ∀ a, c.W0.own a → ∃ o, c.H0 a = some o ∧ mutO o = true
/-! ### locks -/
section
variable {L : List (Addr × Obj)} {H : Hp} {a p : Addr} {o u : HO}
theorem lock_rd (h : H a = some u) : Rd (lockH L H) a u := by
  cases e : L.lookup a with
  | none => exact .inl (by simp only [lockH, e]; exact h)
  | some x => exact .inr ⟨x, by simp only [lockH, e, h]; rfl⟩
theorem lock_none (h : lockH L H p = none) : H p = none := by
  unfold lockH at h
  cases e : L.lookup p with
  | none => rw [e] at h; exact h
  | some x =>
    rw [e] at h
    cases q : H p with
    | none => rfl
    | some y => rw [q] at h; cases h
theorem lock_at (h : L.lookup a = none) : lockH L H a = H a := by
  unfold lockH
  rw [h]
theorem lock_upd (h : L.lookup p = none) : upd (lockH L H) p o = lockH L (upd H p o) := by
  funext b
  unfold upd lockH
  by_cases e : b = p
  · subst e
    simp only [h]
  · simp only [if_neg e]
end
theorem Pre.lnone {c : C0} {W : Wd} {st : Ps} {σ : L2.St} {H : Hp} (P : Pre c W st σ H) {p : Addr} (h : H p = none) : W.L.lookup p = none := by
  cases e : W.L.lookup p with
  | none => rfl
  | some o =>
    obtain ⟨_, x, q, _⟩ := P.base.lF p o e
    rw [h] at q
    cases q
theorem Pre.lown {c : C0} {W : Wd} {st : Ps} {σ : L2.St} {H : Hp} (P : Pre c W st σ H) {p : Addr} (h : ¬ W.F p) (h2 : ¬ W.own p) : W.L.lookup p = none := by
  cases e : W.L.lookup p with
  | none => rfl
  | some o => exact ((P.base.lF p o e).1.elim h fun z => h2 z.2).elim
theorem Step.fut {rw : Bool} {W W' : Wd} {H H' : Hp} (s : Step rw W H W' H') (hF : rw = true → ∀ a, W.own a → ¬ W.F a) : Fut W.φ W.F H W'.φ W'.F H' :=
  ⟨s.cells, s.sub, fun a o hf e => s.keep a o e fun hr ho => hF hr a ho hf, s.tups⟩
/-! ### results of expressions -/
/-- plain data, or the thing that a slot bears -/
inductive R where
  | v (d : D) | ref (i : Nat)
def look (st : Ps) : R → Option D
  | .v d => some d
  | .ref i => match st.ρ[i]? with
    | some .un => none
    | some o => some o.toD
    | none => none
def RV (W : Wd) (σ : L2.St) (H : Hp) (v : V) : R → Prop
  | .v d => Rp W H v d
  | .ref i => σ[i]? = some (some v)
abbrev EK := Addr → List (Str × D) → Ps → Prop
abbrev Ex := EK → Ps → (R → Ps → Prop) → Prop
/-- the reading of an expression over plain states -/
def tX (c : C0) (f : Ex) : TE := fun σ H Q => ∃ W st H1 Q0, H = lockH W.L H1 ∧ Pre c W st σ H1 ∧ f c.E st Q0 ∧
  ∀ r st' v W' H2, Q0 r st' → Step c.rw W H1 W' H2 → Pre c W' st' σ H2 → RV W' σ H2 v r → Q v (lockH W'.L H2)
end Q
namespace Q
open PySem L2
/-! ### what is read: the top may be a slot's own thing -/
inductive Top (φ : List (Addr × Addr)) (F : Addr → Prop) (H : Hp) : V → D → Prop
  | non : Top φ F H .non .non
  | bl (b : Bool) : Top φ F H (.bl b) (.bl b)
  | int (i : Int) : Top φ F H (.int i) (.int i)
  | str (x : Str) : Top φ F H (.str x) (.str x)
  | byt (x : Array UInt8) : Top φ F H (.byt x) (.byt x)
  | ty (n : String) : Top φ F H (.ty n) (.ty n)
  | cls (a : Addr) : Top φ F H (.ref a) (.cls a)
  | cell {n : Nat} {a r : Addr} : φ[n]? = some (a, r) → Top φ F H (.ref a) (.cell n)
  | rows {n : Nat} {a r : Addr} : φ[n]? = some (a, r) → Top φ F H (.ref r) (.rows n)
  | lst {a : Addr} {xs : List V} {ds : List D} : H a = some (.lst xs) → RepL φ F H xs ds → Top φ F H (.ref a) (.lst ds)
  | scr {a : Addr} {ns : List Int} : Rd H a (.lst (ns.map V.int)) → Top φ F H (.ref a) (.scr ns)
  | tup {a : Addr} {xs : List V} {ds : List D} : H a = some (.tup xs) → RepL φ F H xs ds → Top φ F H (.ref a) (.tup ds)
  | dK {a : Addr} {xs : List (Key × V)} {ds : List (Key × D)} : H a = some (.dK xs) → RepK φ F H xs ds → Top φ F H (.ref a) (.dK ds)
  | dT {a : Addr} {xs : List (List Key × V)} {ds : List (List Key × D)} : H a = some (.dT xs) → RepT φ F H xs ds → Top φ F H (.ref a) (.dT ds)
  | ins {a C dx : Addr} {xs : List (Str × V)} {ds : List (Str × D)} : H a = some (.ins C dx xs) → RepF φ F H xs ds → Top φ F H (.ref a) (.ins C ds)
  | exc {a d C : Addr} {xs : List (Str × V)} {ds : List (Str × D)} : F d → H d = some (.xd xs) → RepF φ F H xs ds → Top φ F H (.ref a) (.exc a d C ds)
theorem Rep.top {φ F H v d} (h : Rep φ F H v d) : Top φ F H v d := by
  cases h with
  | non => exact .non
  | bl b => exact .bl b
  | int b => exact .int b
  | str b => exact .str b
  | byt b => exact .byt b
  | ty b => exact .ty b
  | cls b => exact .cls b
  | cell e => exact .cell e
  | rows e => exact .rows e
  | lst h1 h2 h3 => exact .lst h2 h3
  | scr h1 h2 => exact .scr h2
  | tup h2 h3 => exact .tup h2 h3
  | dK h1 h2 h3 => exact .dK h2 h3
  | dT h1 h2 h3 => exact .dT h2 h3
  | ins h1 h2 h3 => exact .ins h2 h3
  | exc h1 h2 h3 => exact .exc h1 h2 h3
theorem OwnAt.top {W : Wd} {H : Hp} {a : Addr} {o : O} (h : OwnAt W H a o) : Top W.φ W.F H (.ref a) o.toD := by
  cases o with
  | un => exact h.elim
  | d x => exact h.elim
  | lst _ => obtain ⟨_, h, g⟩ := h; exact .lst h g
  | dK _ => obtain ⟨_, h, g⟩ := h; exact .dK h g
  | dT _ => obtain ⟨_, h, g⟩ := h; exact .dT h g
  | ins _ _ _ => obtain ⟨_, _, _, h, g⟩ := h; exact .ins h g
theorem OwnAt.rep {W : Wd} {H : Hp} {a : Addr} {o : O} (hF : W.F a) (h : OwnAt W H a o) : Rp W H (.ref a) o.toD := by
  cases o with
  | un => exact h.elim
  | d x => exact h.elim
  | lst _ => obtain ⟨_, h, g⟩ := h; exact .lst hF h g
  | dK _ => obtain ⟨_, h, g⟩ := h; exact .dK hF h g
  | dT _ => obtain ⟨_, h, g⟩ := h; exact .dT hF h g
  | ins _ _ _ => obtain ⟨_, _, _, h, g⟩ := h; exact .ins hF h g
section
variable {c : C0} {W W' : Wd} {st st' : Ps} {σ : L2.St} {H H' : Hp}
theorem Pre.top (P : Pre c W st σ H) {v : V} {r : R} {d : D} (h : RV W σ H v r) (e : look st r = some d) : Top W.φ W.F H v d := by
  cases r with
  | v x =>
    cases e
    exact Rep.top h
  | ref i =>
    have h' : σ[i]? = some (some v) := h
    unfold look at e
    dsimp only at e
    cases q : st.ρ[i]? with
    | none => rw [q] at e; cases e
    | some o =>
      rw [q] at e
      have so := P.slot i o q
      rw [h'] at so
      cases o with
      | un => cases e
      | d x =>
        cases e
        obtain ⟨v', e1, e2⟩ := so
        cases e1
        exact Rep.top e2
      | lst _ => cases e; obtain ⟨a, e1, e2⟩ := so; cases e1; exact e2.top
      | dK _ => cases e; obtain ⟨a, e1, e2⟩ := so; cases e1; exact e2.top
      | dT _ => cases e; obtain ⟨a, e1, e2⟩ := so; cases e1; exact e2.top
      | ins _ _ _ => cases e; obtain ⟨a, e1, e2⟩ := so; cases e1; exact e2.top
theorem Pre.fut (P : Pre c W st σ H) (s : Step c.rw W H W' H') : Fut W.φ W.F H W'.φ W'.F H' := s.fut P.base.ownF
theorem RV.step (P : Pre c W st σ H) (s : Step c.rw W H W' H') {v : V} {r : R} (h : RV W σ H v r) : RV W' σ H' v r := by
  cases r with
  | v d => exact Rep.fut (P.fut s) h
  | ref i => exact h
/-! ### a new thing -/
def Wd.add (W : Wd) (p : Addr) : Wd := { W with F := fun a => W.F a ∨ a = p }
theorem upd_some {H : Hp} {p a : Addr} {o u : HO} (hp : H p = none) (h : H a = some u) : upd H p o a = some u := by
  rw [upd_ne (ne_of_none h hp)]
  exact h
theorem upd_dom {H : Hp} {p a : Addr} {o : HO} (h : H a ≠ none) : upd H p o a ≠ none := by
  unfold upd
  split
  · intro z; cases z
  · exact h
theorem step_new (rw : Bool) (W : Wd) {H : Hp} {p : Addr} {o : HO} (hp : H p = none) : Step rw W H W (upd H p o) :=
  ⟨fun _ _ e => e, fun _ h => h, fun _ _ e _ => upd_some hp e, fun _ _ e => upd_some hp e, fun _ h => upd_dom h, fun _ h => .inl h, ⟨[], rfl⟩, fun _ h => .inl h⟩
theorem step_add (rw : Bool) (W : Wd) (H : Hp) (p : Addr) : Step rw W H (W.add p) H :=
  ⟨fun _ _ e => e, fun _ h => .inl h, fun _ _ e _ => e, fun _ _ e => e, fun _ h => h, fun _ h => .inl h, ⟨[], rfl⟩, fun _ h => .inl h⟩
theorem Base.own_there {rw : Bool} {S : List Cell} (B : Base rw W S H) {a : Addr} (h : W.own a) : ∃ o, H a = some o ∧ mutO o = true := by
  obtain ⟨w, hw, ha⟩ := h
  obtain ⟨n, hn⟩ := List.getElem?_of_mem hw
  have hl := (List.getElem?_eq_some_iff.mp hn).1
  have h1 : n < W.φ.length := by have := B.len; omega
  have h2 : n < S.length := by have := B.len; omega
  exact (B.cell n _ _ w (List.getElem?_eq_getElem h1) (List.getElem?_eq_getElem h2) hn).there a ha
theorem Base.later {rw : Bool} {S : List Cell} (B : Base rw W S H) (s : Step false W H W H') : Base rw W S H' := by
  have f := s.fut (fun z => by cases z)
  refine ⟨fun a h => ?_, B.len, fun n a x w h1 h2 h3 => ?_, B.apart, B.ownF, B.lN, fun a o h => ?_⟩
  · obtain ⟨o, e⟩ := B.fdom a h
    exact ⟨o, s.keep a o e (fun z => by cases z)⟩
  · have r := B.cell n a x w h1 h2 h3
    refine r.fut f fun y hy => ?_
    obtain ⟨o, e, _⟩ := r.there y hy
    rw [e, s.keep y o e (fun z => by cases z)]
  · obtain ⟨k1, u, k2, k3⟩ := B.lF a o h
    exact ⟨k1, u, s.keep a u k2 (fun z => by cases z), k3⟩
theorem Base.to {r r' : Bool} {S : List Cell} (B : Base r W S H) (h : r' = true → r = true) : Base r' W S H :=
  ⟨B.fdom, B.len, B.cell, B.apart, fun z => B.ownF (h z), B.lN, fun a o e => ⟨(B.lF a o e).1.elim .inl fun z => .inr ⟨(by
    cases r' with
    | false => rfl
    | true => rw [h rfl] at z; cases z.1), z.2⟩, (B.lF a o e).2⟩⟩
theorem Base.back {r r' : Bool} {S S' : List Cell} (B : Base r W S H) (B' : Base r' W' S' H') (e : W'.L = W.L) (s : Step r W H W' H') (hO : r' = false → ∀ a, W'.own a → W.own a) (hn : ∀ a, W'.F a → W.F a ∨ H a = none) : Base r W' S' H' :=
  ⟨B'.fdom, B'.len, B'.cell, B'.apart, fun hr => (by
    cases r' with
    | true => exact B'.ownF rfl
    | false => exact fun a ho hf => (hn a hf).elim (B.ownF hr a (hO rfl a ho)) fun z => (B.own_there (hO rfl a ho)).elim fun o q => by rw [z] at q; cases q.1), B'.lN, fun a o h => ⟨(B.lF a o (by rw [← e]; exact h)).1.elim (fun z => .inl (s.sub a z)) fun z => (s.ownOld a z.2).elim (fun y => .inr ⟨z.1, y⟩) fun y => (by rw [z.1] at y; cases y), (B'.lF a o h).2⟩⟩
theorem Base.add {rw : Bool} {S : List Cell} (B : Base rw W S H) {p : Addr} (hp : ¬ W.own p) (ht : ∃ o, H p = some o) : Base rw (W.add p) S H := by
  refine ⟨fun a h => ?_, B.len, fun n a x w h1 h2 h3 => ?_, B.apart, fun hr a ho hf => ?_, B.lN, fun a o h => ⟨(B.lF a o h).1.elim (fun z => .inl (.inl z)) .inr, (B.lF a o h).2⟩⟩
  · rcases h with h | rfl
    · exact B.fdom a h
    · exact ht
  · exact (B.cell n a x w h1 h2 h3).fut ⟨fun _ _ e => e, fun _ h => .inl h, fun _ _ _ e => e, fun _ _ e => e⟩ fun _ _ => rfl
  · rcases hf with hf | rfl
    · exact B.ownF hr a ho hf
    · exact hp ho
theorem SlotOk.fut {o : O} {x : Option V} (f : Fut W.φ W.F H W'.φ W'.F H') (e : ∀ a, x = some (.ref a) → o.owned = true → H' a = H a) (h : SlotOk W H o x) : SlotOk W' H' o x := by
  cases o with
  | un => exact trivial
  | d y => obtain ⟨v, e1, e2⟩ := h; exact ⟨v, e1, e2.fut f⟩
  | lst _ => obtain ⟨a, e1, e2⟩ := h; exact ⟨a, e1, e2.fut f (e a e1 rfl)⟩
  | dK _ => obtain ⟨a, e1, e2⟩ := h; exact ⟨a, e1, e2.fut f (e a e1 rfl)⟩
  | dT _ => obtain ⟨a, e1, e2⟩ := h; exact ⟨a, e1, e2.fut f (e a e1 rfl)⟩
  | ins _ _ _ => obtain ⟨a, e1, e2⟩ := h; exact ⟨a, e1, e2.fut f (e a e1 rfl)⟩
theorem join_ref {x : Option (Option V)} {v : V} (h : x.join = some v) : x = some (some v) := by
  cases x with
  | none => cases h
  | some y => exact congrArg some h
theorem Pre.sthere (P : Pre c W st σ H) {i : Nat} {a : Addr} (h : slotOwns st.ρ σ i a) : ∃ o, H a = some o ∧ mutO o = true := by
  obtain ⟨o, h1, h2, h3⟩ := h
  have so := P.slot i o h1
  rw [h3] at so
  obtain ⟨b, e1, e2⟩ := SlotOk.own h2 so
  cases e1
  exact e2.there
theorem Pre.ownAt (P : Pre c W st σ H) {i : Nat} {a : Addr} {o : O} (h1 : st.ρ[i]? = some o) (h2 : o.owned = true) (h3 : σ[i]? = some (some (.ref a))) : OwnAt W H a o := by
  have so := P.slot i o h1
  rw [h3] at so
  obtain ⟨b, e1, e2⟩ := SlotOk.own h2 so
  cases e1
  exact e2
theorem Pre.vstep (P : Pre c W st σ H) (s : Step c.rw W H W' H') : st.vw = true → c.rw = false ∧ ∀ a, W'.own a → W'.F a := fun h =>
  ⟨(P.hvw h).1, fun a ho => (s.ownNew a ho).elim (fun z => s.sub a ((P.hvw h).2 a z)) fun z => by rw [(P.hvw h).1] at z; cases z.1⟩
/-- a call (or anything that leaves the slots' things alone) has been made -/
theorem Pre.call (P : Pre c W st σ H) {S' : List Cell} (s : Step c.rw W H W' H') (hn : ∀ a, W'.F a → W.F a ∨ H a = none) (B : Base c.rw W' S' H') : Pre c W' { st with S := S' } σ H' where
  hrw := P.hrw
  step := P.step.trans s
  new := fun a h => (hn a h).elim (P.new a) fun z => .inr (Classical.byContradiction fun y => P.step.dom a y z)
  base := B
  slen := P.slen
  slot := fun i o h => (P.slot i o h).fut (P.fut s) fun a e1 e2 => by
    have so : slotOwns st.ρ σ i a := ⟨o, h, e2, join_ref e1⟩
    obtain ⟨u, e, _⟩ := P.sthere so
    rw [e, s.keep a u e (fun _ => (P.sown i a so).2.1)]
  sown := fun i a h => by
    obtain ⟨h1, h2, h3⟩ := P.sown i a h
    obtain ⟨u, e, _⟩ := P.sthere h
    exact ⟨fun z => (hn a z).elim h1 fun y => (by rw [e] at y; cases y), fun z => (s.ownNew a z).elim h2 fun y => (by rw [e] at y; cases y.2), h3⟩
  sapart := P.sapart
  rsv := fun a h => by
    obtain ⟨h1, h2, ⟨u, e⟩, h4⟩ := P.rsv a h
    exact ⟨fun z => (hn a z).elim h1 fun y => (by rw [e] at y; cases y), fun z => (s.ownNew a z).elim h2 fun y => (by rw [e] at y; cases y.2), ⟨u, s.keep a u e fun _ => h2⟩, h4⟩
  hvw := P.vstep s
  own0 := P.own0
/-- a new plain thing -/
theorem Pre.alloc (P : Pre c W st σ H) {p : Addr} {o : HO} (hp : H p = none) : Step c.rw W H (W.add p) (upd H p o) ∧ Pre c (W.add p) st σ (upd H p o) := by
  have s1 : Step c.rw W H (W.add p) (upd H p o) := (step_new c.rw W hp).trans (step_add c.rw W _ p)
  have hno : ¬ W.own p := fun z => by
    obtain ⟨u, e, _⟩ := P.base.own_there z
    rw [hp] at e
    cases e
  refine ⟨s1, P.call (S' := st.S) s1 (fun a h => h.elim .inl fun e => .inr (by rw [e]; exact hp)) ?_⟩
  exact (P.base.later (step_new false W hp)).add hno ⟨o, upd_same⟩
/-- a new thing, borne by nobody yet -/
theorem Pre.fresh (P : Pre c W st σ H) {p : Addr} {o : HO} (hp : H p = none) : Step c.rw W H W (upd H p o) ∧ Pre c W st σ (upd H p o) ∧ ¬ W.F p ∧ ¬ W.own p ∧ c.H0 p = none ∧ (∀ i, ¬ slotOwns st.ρ σ i p) ∧ ¬ c.R p := by
  have s1 : Step c.rw W H W (upd H p o) := step_new c.rw W hp
  have hno : ¬ W.own p := fun z => by
    obtain ⟨u, e, _⟩ := P.base.own_there z
    rw [hp] at e
    cases e
  refine ⟨s1, P.call (S' := st.S) s1 (fun a h => .inl h) (P.base.later (step_new false W hp)), fun z => ?_, hno, Classical.byContradiction fun y => P.step.dom p y hp, fun i z => ?_, fun z => ?_⟩
  · obtain ⟨u, e⟩ := P.base.fdom p z
    rw [hp] at e
    cases e
  · obtain ⟨u, e, _⟩ := P.sthere z
    rw [hp] at e
    cases e
  · obtain ⟨_, _, ⟨u, e⟩, _⟩ := P.rsv p z
    rw [hp] at e
    cases e
/-- nobody bears p: it becomes plain -/
theorem Pre.freeze0 (P : Pre c W st σ H) {p : Addr} (ho : ¬ W.own p) (h0 : c.H0 p = none) (hs : ∀ i, ¬ slotOwns st.ρ σ i p) (hR : ¬ c.R p) (ht : ∃ o, H p = some o) : Step c.rw W H (W.add p) H ∧ Pre c (W.add p) st σ H := by
  have s1 := step_add c.rw W H p
  refine ⟨s1, P.hrw, P.step.trans s1, fun a h => h.elim (P.new a) fun e => .inr (by rw [e]; exact h0), P.base.add ho ht, P.slen, fun i o h => (P.slot i o h).fut (P.fut s1) fun _ _ _ => rfl, fun i a h => ?_, P.sapart, fun a h => ?_, P.vstep s1, P.own0⟩
  · obtain ⟨h1, h2, h3⟩ := P.sown i a h
    exact ⟨fun z => z.elim h1 fun e => hs i (by rw [← e]; exact h), h2, h3⟩
  · obtain ⟨h1, h2, h3, h4⟩ := P.rsv a h
    exact ⟨fun z => z.elim h1 fun e => hR (by rw [← e]; exact h), h2, h3, h4⟩
end
end Q
namespace Q
open PySem L2
section
variable {c : C0} {W W' : Wd} {st st' : Ps} {σ : L2.St} {H H' : Hp}
theorem owns_set {ρ : List O} {σ : L2.St} {i j : Nat} {o : O} {x : Option V} {a : Addr} (h : slotOwns (ρ.set i o) (σ.set i x) j a) : (j = i ∧ o.owned = true ∧ x = some (.ref a)) ∨ (j ≠ i ∧ slotOwns ρ σ j a) := by
  obtain ⟨u, h1, h2, h3⟩ := h
  by_cases e : j = i
  · subst e
    left
    rw [List.getElem?_set] at h1 h3
    rw [if_pos rfl] at h1 h3
    split at h1
    · split at h3
      · cases h1
        exact ⟨rfl, h2, Option.some.inj h3⟩
      · cases h3
    · cases h1
  · right
    rw [List.getElem?_set_ne (Ne.symm e)] at h1 h3
    exact ⟨e, u, h1, h2, h3⟩
theorem owns_setO {ρ : List O} {σ : L2.St} {i j : Nat} {o : O} {a : Addr} (h : slotOwns (ρ.set i o) σ j a) : (j = i ∧ o.owned = true ∧ σ[i]? = some (some (.ref a))) ∨ (j ≠ i ∧ slotOwns ρ σ j a) := by
  obtain ⟨u, h1, h2, h3⟩ := h
  by_cases e : j = i
  · subst e
    left
    rw [List.getElem?_set] at h1
    rw [if_pos rfl] at h1
    split at h1
    · cases h1
      exact ⟨rfl, h2, h3⟩
    · cases h1
  · right
    rw [List.getElem?_set_ne (Ne.symm e)] at h1
    exact ⟨e, u, h1, h2, h3⟩
/-- a slot is given plain data -/
theorem Pre.set (P : Pre c W st σ H) (i : Nat) {v : V} {d : D} (h : Rp W H v d) : Pre c W { st with ρ := st.ρ.set i (.d d) } (σ.set i (some v)) H where
  hrw := P.hrw
  step := P.step
  new := P.new
  base := P.base
  slen := by simp only [List.length_set]; exact P.slen
  slot := fun j o e => by
    by_cases q : j = i
    · subst q
      rw [List.getElem?_set, if_pos rfl] at e ⊢
      have hl := P.slen
      split at e
      · cases e
        rw [if_pos (by omega)]
        exact ⟨v, rfl, h⟩
      · cases e
    · rw [List.getElem?_set_ne (Ne.symm q)] at e ⊢
      exact P.slot j o e
  sown := fun j a z => by
    rcases owns_set z with ⟨_, z, _⟩ | ⟨_, z⟩
    · cases z
    · exact P.sown j a z
  sapart := fun j k a z y => by
    rcases owns_set z with ⟨_, z, _⟩ | ⟨_, z⟩
    · cases z
    · rcases owns_set y with ⟨_, y, _⟩ | ⟨_, y⟩
      · cases y
      · exact P.sapart j k a z y
  rsv := fun a h => by
    obtain ⟨h1, h2, h3, h4⟩ := P.rsv a h
    refine ⟨h1, h2, h3, fun j z => ?_⟩
    rcases owns_set z with ⟨_, z, _⟩ | ⟨_, z⟩
    · cases z
    · exact h4 j z
  hvw := P.hvw
  own0 := P.own0
/-- a slot is given a thing that nobody bears -/
theorem Pre.setO (P : Pre c W st σ H) (i : Nat) {p : Addr} {o : O} (h : OwnAt W H p o) (hF : ¬ W.F p) (ho : ¬ W.own p) (h0 : c.H0 p = none) (hs : ∀ i, ¬ slotOwns st.ρ σ i p) (hR : ¬ c.R p) : Pre c W { st with ρ := st.ρ.set i o } (σ.set i (some (.ref p))) H where
  hrw := P.hrw
  step := P.step
  new := P.new
  base := P.base
  slen := by simp only [List.length_set]; exact P.slen
  slot := fun j u e => by
    by_cases q : j = i
    · subst q
      rw [List.getElem?_set, if_pos rfl] at e ⊢
      have hl := P.slen
      split at e
      · cases e
        rw [if_pos (by omega)]
        cases o with
        | un => exact trivial
        | d x => exact h.elim
        | lst _ => exact ⟨p, rfl, h⟩
        | dK _ => exact ⟨p, rfl, h⟩
        | dT _ => exact ⟨p, rfl, h⟩
        | ins _ _ _ => exact ⟨p, rfl, h⟩
      · cases e
    · rw [List.getElem?_set_ne (Ne.symm q)] at e ⊢
      exact P.slot j u e
  sown := fun j a z => by
    rcases owns_set z with ⟨_, _, z⟩ | ⟨_, z⟩
    · cases z
      exact ⟨hF, ho, h0⟩
    · exact P.sown j a z
  sapart := fun j k a z y => by
    rcases owns_set z with ⟨e1, _, z⟩ | ⟨_, z⟩
    · rcases owns_set y with ⟨e2, _, y⟩ | ⟨_, y⟩
      · rw [e1, e2]
      · cases z
        exact absurd y (hs k)
    · rcases owns_set y with ⟨e2, _, y⟩ | ⟨_, y⟩
      · cases y
        exact absurd z (hs j)
      · exact P.sapart j k a z y
  rsv := fun a h => by
    obtain ⟨h1, h2, h3, h4⟩ := P.rsv a h
    refine ⟨h1, h2, h3, fun j z => ?_⟩
    rcases owns_set z with ⟨_, _, z⟩ | ⟨_, z⟩
    · cases z
      exact hR h
    · exact h4 j z
  hvw := P.hvw
  own0 := P.own0
/-- a slot's thing becomes plain -/
theorem Pre.freeze (P : Pre c W st σ H) {i : Nat} {a : Addr} {o : O} (h1 : st.ρ[i]? = some o) (h2 : o.owned = true) (h3 : σ[i]? = some (some (.ref a))) :
    Step c.rw W H (W.add a) H ∧ Pre c (W.add a) { st with ρ := st.ρ.set i (.d o.toD) } σ H ∧ Rp (W.add a) H (.ref a) o.toD := by
  have so : slotOwns st.ρ σ i a := ⟨o, h1, h2, h3⟩
  obtain ⟨k1, k2, k3⟩ := P.sown i a so
  obtain ⟨u, hu, _⟩ := P.sthere so
  have s1 := step_add c.rw W H a
  have r : Rp (W.add a) H (.ref a) o.toD := OwnAt.rep (.inr rfl) ((P.ownAt h1 h2 h3).fut (P.fut s1) rfl)
  refine ⟨s1, ⟨P.hrw, P.step.trans s1, fun b h => h.elim (P.new b) fun e => .inr (by rw [e]; exact k3), P.base.add k2 ⟨u, hu⟩, by simp only [List.length_set]; exact P.slen, fun j x h => ?_, fun j b h => ?_, fun j k b z y => ?_, fun b h => ?_, P.vstep s1, P.own0⟩, r⟩
  · by_cases q : j = i
    · subst q
      rw [List.getElem?_set, if_pos rfl] at h
      split at h
      · cases h
        rw [h3]
        exact ⟨_, rfl, r⟩
      · cases h
    · rw [List.getElem?_set_ne (Ne.symm q)] at h
      exact (P.slot j x h).fut (P.fut s1) fun _ _ _ => rfl
  · rcases owns_setO h with ⟨_, z, _⟩ | ⟨ne, z⟩
    · cases z
    · obtain ⟨q1, q2, q3⟩ := P.sown j b z
      exact ⟨fun y => y.elim q1 fun e => ne (P.sapart j i a (by rw [← e]; exact z) so), q2, q3⟩
  · rcases owns_setO z with ⟨_, z, _⟩ | ⟨_, z⟩
    · cases z
    · rcases owns_setO y with ⟨_, y, _⟩ | ⟨_, y⟩
      · cases y
      · exact P.sapart j k b z y
  · obtain ⟨q1, q2, q3, q4⟩ := P.rsv b h
    refine ⟨fun z => z.elim q1 fun e => q4 i (by rw [e]; exact so), q2, q3, fun j z => ?_⟩
    rcases owns_setO z with ⟨_, z, _⟩ | ⟨_, z⟩
    · cases z
    · exact q4 j z
theorem fut_mut (W : Wd) {H : Hp} {a : Addr} {u u' : HO} (hF : ¬ W.F a) (hu : H a = some u) (hm : mutO u = true) : Fut W.φ W.F H W.φ W.F (upd H a u') :=
  ⟨fun _ _ e => e, fun _ h => h, fun b o hb e => by rw [upd_ne (fun z => hF (by rw [← z]; exact hb))]; exact e, fun b xs e => by
    rw [upd_ne (fun z => by subst z; rw [hu] at e; cases e; cases hm)]
    exact e⟩
/-- a slot's thing is changed -/
theorem Pre.mutate (P : Pre c W st σ H) {i : Nat} {a : Addr} {o o' : O} {u' : HO} (h1 : st.ρ[i]? = some o) (h2 : o.owned = true) (h3 : σ[i]? = some (some (.ref a))) (h2' : o'.owned = true)
    (h : Fut W.φ W.F H W.φ W.F (upd H a u') → OwnAt W (upd H a u') a o') : Pre c W { st with ρ := st.ρ.set i o' } σ (upd H a u') := by
  have so : slotOwns st.ρ σ i a := ⟨o, h1, h2, h3⟩
  obtain ⟨k1, k2, k3⟩ := P.sown i a so
  obtain ⟨u, hu, hm⟩ := P.sthere so
  have f := fut_mut W (u' := u') k1 hu hm
  refine ⟨P.hrw, ⟨P.step.cells, P.step.sub, fun b ob e n => ?_, fun b xs e => ?_, fun b e => upd_dom (P.step.dom b e), P.step.ownNew, P.step.locks, P.step.ownOld⟩, P.new, ⟨fun b hb => ?_, P.base.len, fun n b x w q1 q2 q3 => ?_, P.base.apart, P.base.ownF, P.base.lN, fun b ob e => ?_⟩, by simp only [List.length_set]; exact P.slen, fun j x e => ?_, fun j b e => ?_, fun j k b z y => ?_, fun b e => ?_, P.hvw, P.own0⟩
  · rw [upd_ne (fun z => by subst z; rw [k3] at e; cases e)]
    exact P.step.keep b ob e n
  · rw [upd_ne (fun z => by subst z; rw [k3] at e; cases e)]
    exact P.step.tups b xs e
  · obtain ⟨w, q⟩ := P.base.fdom b hb
    exact ⟨w, f.keep b w hb q⟩
  · have r := P.base.cell n b x w q1 q2 q3
    refine r.fut f fun y hy => ?_
    rw [upd_ne]
    intro z
    subst z
    exact k2 ⟨w, List.mem_of_getElem? q3, hy⟩
  · obtain ⟨q1, w, q2, q3⟩ := P.base.lF b ob e
    refine ⟨q1, w, ?_, q3⟩
    rw [upd_ne (fun z => by subst z; exact q1.elim k1 fun y => k2 y.2)]
    exact q2
  · by_cases q : j = i
    · subst q
      rw [List.getElem?_set, if_pos rfl] at e
      split at e
      · cases e
        rw [h3]
        exact SlotOk.of_own h2' (h f)
      · cases e
    · rw [List.getElem?_set_ne (Ne.symm q)] at e
      refine (P.slot j x e).fut f fun b e1 e2 => ?_
      rw [upd_ne]
      intro z
      subst z
      exact q (P.sapart j i b ⟨x, e, e2, join_ref e1⟩ so)
  · rcases owns_setO e with ⟨_, _, z⟩ | ⟨_, z⟩
    · rw [h3] at z
      cases z
      exact ⟨k1, k2, k3⟩
    · exact P.sown j b z
  · rcases owns_setO z with ⟨e1, _, z⟩ | ⟨n1, z⟩
    · rcases owns_setO y with ⟨e2, _, y⟩ | ⟨_, y⟩
      · rw [e1, e2]
      · rw [h3] at z
        cases z
        rw [e1]
        exact P.sapart i k a so y
    · rcases owns_setO y with ⟨e2, _, y⟩ | ⟨_, y⟩
      · rw [h3] at y
        cases y
        rw [e2]
        exact P.sapart j i a z so
      · exact P.sapart j k b z y
  · obtain ⟨q1, q2, ⟨w, q3⟩, q4⟩ := P.rsv b e
    refine ⟨q1, q2, ⟨w, ?_⟩, fun j z => ?_⟩
    · rw [upd_ne (fun z => q4 i (by rw [z]; exact so))]
      exact q3
    · rcases owns_setO z with ⟨_, _, z⟩ | ⟨_, z⟩
      · rw [h3] at z
        cases z
        exact q4 i so
      · exact q4 j z
end
/-! ### judgements over plain states -/
def ExcAt (W : Wd) (H : Hp) (od : Option Addr) (fs : List (Str × D)) : Prop := match od with
  | none => fs = []
  | some d => ∃ xs, W.F d ∧ H d = some (.xd xs) ∧ RepF W.φ W.F H xs fs
/-- the wish about errors -/
def wish (c : C0) : WX := fun cls od σ H => ∃ W st H1 C fs, H = lockH W.L H1 ∧ Pre c W st σ H1 ∧ cls = .ref C ∧ ExcAt W H1 od fs ∧ c.E C fs st
abbrev Lk (X : Cx) (c : C0) : Prop := Takes X (wish c)
/-- an expression -/
def PX (X : Cx) (e : Expr) (f : Ex) : Prop := ∀ c, Lk X c → PE X e (tX c f)
theorem peOf {X : Cx} {e : Expr} {t t' : TE} (h : PE X e t) (m : ∀ σ H Q, t' σ H Q → t σ H Q) : PE X e t' := ⟨fun pins s σ H Q I q => h.run pins s σ H Q I (m σ H Q q)⟩
theorem ptOf {X : Cx} {e : Expr} {t t' : TT} (h : PT X e t) (m : ∀ σ H Q, t' σ H Q → t σ H Q) : PT X e t' := ⟨fun pins s σ H Q I q => h.run pins s σ H Q I (m σ H Q q)⟩
theorem paOf {X : Cx} {e : List Expr} {t t' : TA} (h : PA X e t) (m : ∀ σ H Q, t' σ H Q → t σ H Q) : PA X e t' := ⟨fun pos pins s σ H Q I q => h.run pos pins s σ H Q I (m σ H Q q)⟩
theorem psOf {X : Cx} {e : Stmt} {t t' : TS} (h : PS X e t) (m : ∀ D σ H, t' D σ H → t D σ H) : PS X e t' := ⟨fun pins s σ H D I q => h.run pins s σ H D I (m D σ H q)⟩
theorem pssOf {X : Cx} {e : List Stmt} {t t' : TS} (h : PSs X e t) (m : ∀ D σ H, t' D σ H → t D σ H) : PSs X e t' := ⟨fun pins s σ H D I q => h.run pins s σ H D I (m D σ H q)⟩
/-- a test -/
abbrev Tx := EK → Ps → (Bool → Ps → Prop) → Prop
def tXT (c : C0) (f : Tx) : TT := fun σ H Q => ∃ W st H1 Q0, H = lockH W.L H1 ∧ Pre c W st σ H1 ∧ f c.E st Q0 ∧
  ∀ b st' W' H2, Q0 b st' → Step c.rw W H1 W' H2 → Pre c W' st' σ H2 → Q b (lockH W'.L H2)
def PXT (X : Cx) (e : Expr) (f : Tx) : Prop := ∀ c, Lk X c → PT X e (tXT c f)
/-- arguments -/
abbrev Ax := EK → Ps → (List R → Ps → Prop) → Prop
inductive RVs (W : Wd) (σ : L2.St) (H : Hp) : List V → List R → Prop
  | nil : RVs W σ H [] []
  | cons {v : V} {r : R} {vs : List V} {rs : List R} : RV W σ H v r → RVs W σ H vs rs → RVs W σ H (v :: vs) (r :: rs)
def tXA (c : C0) (f : Ax) : TA := fun σ H Q => ∃ W st H1 Q0, H = lockH W.L H1 ∧ Pre c W st σ H1 ∧ f c.E st Q0 ∧
  ∀ rs st' vs W' H2, Q0 rs st' → Step c.rw W H1 W' H2 → Pre c W' st' σ H2 → RVs W' σ H2 vs rs → Q vs (lockH W'.L H2)
def PXA (X : Cx) (es : List Expr) (f : Ax) : Prop := ∀ c, Lk X c → PA X es (tXA c f)
theorem RVs.step {c : C0} {W W' : Wd} {st : Ps} {σ : L2.St} {H H' : Hp} (P : Pre c W st σ H) (s : Step c.rw W H W' H') : ∀ {vs : List V} {rs : List R}, RVs W σ H vs rs → RVs W' σ H' vs rs
  | _, _, .nil => .nil
  | _, _, .cons h t => .cons (h.step P s) (t.step P s)
/-- a new thing, or plain data: what a slot may be given -/
def OV (c : C0) (W : Wd) (st : Ps) (σ : L2.St) (H : Hp) (v : V) (o : O) : Prop :=
  match o with
  | .un => False
  | .d x => Rp W H v x
  | o => ∃ a, v = .ref a ∧ OwnAt W H a o ∧ ¬ W.F a ∧ ¬ W.own a ∧ c.H0 a = none ∧ (∀ i, ¬ slotOwns st.ρ σ i a) ∧ ¬ c.R a
abbrev Ox := EK → Ps → (O → Ps → Prop) → Prop
def tO (c : C0) (f : Ox) : TE := fun σ H Q => ∃ W st H1 Q0, H = lockH W.L H1 ∧ Pre c W st σ H1 ∧ f c.E st Q0 ∧
  ∀ o st' v W' H2, Q0 o st' → Step c.rw W H1 W' H2 → Pre c W' st' σ H2 → OV c W' st' σ H2 v o → Q v (lockH W'.L H2)
def PO (X : Cx) (e : Expr) (f : Ox) : Prop := ∀ c, Lk X c → PE X e (tO c f)
/-- blocks and statements -/
structure En where
  nx : Ps → Prop
  rt : O → Ps → Prop
  bk : Ps → Prop
  ct : Ps → Prop
abbrev Sx := EK → En → Ps → Prop
/-- later, by statements: what is plain stays so -/
structure Aft (W : Wd) (H : Hp) (W' : Wd) (H' : Hp) : Prop where
  fut : Fut W.φ W.F H W'.φ W'.F H'
  locks : ∃ more, W'.L = more ++ W.L
theorem Fut.refl (φ F H) : Fut φ F H φ F H := ⟨fun _ _ e => e, fun _ h => h, fun _ _ _ e => e, fun _ _ e => e⟩
theorem Fut.trans {φ F H φ' F' H' φ2 F2 H2} (a : Fut φ F H φ' F' H') (b : Fut φ' F' H' φ2 F2 H2) : Fut φ F H φ2 F2 H2 :=
  ⟨fun n x e => b.cells n x (a.cells n x e), fun x h => b.sub x (a.sub x h), fun x o h e => b.keep x o (a.sub x h) (a.keep x o h e), fun x xs e => b.tups x xs (a.tups x xs e)⟩
theorem Aft.refl (W : Wd) (H : Hp) : Aft W H W H := ⟨.refl _ _ _, [], rfl⟩
theorem Aft.trans {W W1 W2 : Wd} {H H1 H2 : Hp} (a : Aft W H W1 H1) (b : Aft W1 H1 W2 H2) : Aft W H W2 H2 := by
  obtain ⟨m1, e1⟩ := a.locks
  obtain ⟨m2, e2⟩ := b.locks
  exact ⟨a.fut.trans b.fut, m2 ++ m1, by rw [e2, e1, List.append_assoc]⟩
theorem Pre.aft {c : C0} {W W' : Wd} {st : Ps} {σ : L2.St} {H H' : Hp} (P : Pre c W st σ H) (s : Step c.rw W H W' H') : Aft W H W' H' := ⟨P.fut s, s.locks⟩
def enOk (c : C0) (W0 : Wd) (H0 : Hp) (D : Ends) (K : En) : Prop :=
  (∀ st W σ H, K.nx st → Pre c W st σ H → Aft W0 H0 W H → D.nx σ (lockH W.L H)) ∧ (∀ o st W σ H v, K.rt o st → Pre c W st σ H → Aft W0 H0 W H → OV c W st σ H v o → D.rt v (lockH W.L H)) ∧
  (∀ st W σ H, K.bk st → Pre c W st σ H → Aft W0 H0 W H → D.bk σ (lockH W.L H)) ∧ (∀ st W σ H, K.ct st → Pre c W st σ H → Aft W0 H0 W H → D.ct σ (lockH W.L H))
theorem enOk.aft {c : C0} {W W' : Wd} {H H' : Hp} {D : Ends} {K : En} (e : enOk c W H D K) (a : Aft W H W' H') : enOk c W' H' D K :=
  ⟨fun st W2 σ H2 q P b => e.1 st W2 σ H2 q P (a.trans b), fun o st W2 σ H2 v q P b => e.2.1 o st W2 σ H2 v q P (a.trans b), fun st W2 σ H2 q P b => e.2.2.1 st W2 σ H2 q P (a.trans b), fun st W2 σ H2 q P b => e.2.2.2 st W2 σ H2 q P (a.trans b)⟩
def tXS (c : C0) (f : Sx) : TS := fun D σ H => ∃ W st H1 K, H = lockH W.L H1 ∧ Pre c W st σ H1 ∧ enOk c W H1 D K ∧ f c.E K st
def PXS (X : Cx) (s : Stmt) (f : Sx) : Prop := ∀ c, Lk X c → PS X s (tXS c f)
def PXB (X : Cx) (s : List Stmt) (f : Sx) : Prop := ∀ c, Lk X c → PSs X s (tXS c f)
end Q
namespace Q
open PySem L2
def opt {α : Type} (o : Option α) (Q : α → Prop) : Prop := match o with
  | some x => Q x
  | none => False
theorem opt_ex {α : Type} {o : Option α} {Q : α → Prop} (h : opt o Q) : ∃ x, o = some x ∧ Q x := by
  cases o with
  | none => exact h.elim
  | some x => exact ⟨x, rfl, h⟩
section
variable {X : Cx} {c : C0} {W : Wd} {st : Ps} {σ : L2.St} {H : Hp}
/-! ### what stands in the locked heap -/
theorem Pre.nol (P : Pre c W st σ H) {a : Addr} {u : HO} (h : H a = some u) (hd : dictO u = false) : lockH W.L H a = some u := by
  rw [lock_at]
  · exact h
  · cases e : W.L.lookup a with
    | none => rfl
    | some o =>
      obtain ⟨_, x, e1, e2⟩ := P.base.lF a o e
      rw [h] at e1
      cases e1
      rw [hd] at e2
      cases e2
theorem Pre.lnone' (P : Pre c W st σ H) {p : Addr} (h : lockH W.L H p = none) : H p = none ∧ W.L.lookup p = none := ⟨lock_none h, P.lnone (lock_none h)⟩
/-- what a step that makes o comes to -/
def Res (c : C0) (W : Wd) (st : Ps) (σ : L2.St) (H : Hp) (o : O) (Q : VK) : Prop := ∀ v W' H2, Step c.rw W H W' H2 → Pre c W' st σ H2 → OV c W' st σ H2 v o → Q v (lockH W'.L H2)
theorem Res.d (P : Pre c W st σ H) {x : D} {Q : VK} {v : V} (h : Res c W st σ H (.d x) Q) (r : Rp W H v x) : Q v (lockH W.L H) := h v W H (.refl _ _ _) P r
theorem Res.new (P : Pre c W st σ H) {o : O} {Q : VK} {u : HO} (h : Res c W st σ H o Q) (ho : o.owned = true) (hq : ∀ p, H p = none → OwnAt W (upd H p u) p o) : ∀ p, lockH W.L H p = none → Q (.ref p) (upd (lockH W.L H) p u) := fun p hp => by
  obtain ⟨h1, h2⟩ := P.lnone' hp
  obtain ⟨s, P', f1, f2, f3, f4⟩ := P.fresh (o := u) h1
  rw [lock_upd h2]
  refine h _ _ _ s P' ?_
  have q := hq p h1
  cases o with
  | un => cases ho
  | d x => cases ho
  | lst _ => exact ⟨p, rfl, q, f1, f2, f3, f4⟩
  | dK _ => exact ⟨p, rfl, q, f1, f2, f3, f4⟩
  | dT _ => exact ⟨p, rfl, q, f1, f2, f3, f4⟩
  | ins _ _ _ => exact ⟨p, rfl, q, f1, f2, f3, f4⟩
theorem Res.newT (P : Pre c W st σ H) {ds : List D} {xs : List V} {Q : VK} (h : Res c W st σ H (.d (.tup ds)) Q) (r : RepL W.φ W.F H xs ds) : ∀ p, lockH W.L H p = none → Q (.ref p) (upd (lockH W.L H) p (.tup xs)) := fun p hp => by
  obtain ⟨h1, h2⟩ := P.lnone' hp
  obtain ⟨s, P', _⟩ := P.fresh (o := .tup xs) h1
  rw [lock_upd h2]
  exact h _ _ _ s P' (.tup upd_same (r.fut (P.fut s)))
theorem fut_new (W : Wd) {H : Hp} {p : Addr} {o : HO} (hp : H p = none) : Fut W.φ W.F H W.φ W.F (upd H p o) := ⟨fun _ _ e => e, fun _ h => h, fun _ _ _ e => upd_some hp e, fun _ _ e => upd_some hp e⟩
theorem OV.step {o : O} {v : V} {st' : Ps} (h : OV c W st σ H v o) (e : st'.ρ = st.ρ) : OV c W st' σ H v o := by
  cases o with
  | un => exact h
  | d x => exact h
  | lst _ => obtain ⟨a, h1, h2, h3, h4, h5, h6⟩ := h; exact ⟨a, h1, h2, h3, h4, h5, by rw [e]; exact h6.1, h6.2⟩
  | dK _ => obtain ⟨a, h1, h2, h3, h4, h5, h6⟩ := h; exact ⟨a, h1, h2, h3, h4, h5, by rw [e]; exact h6.1, h6.2⟩
  | dT _ => obtain ⟨a, h1, h2, h3, h4, h5, h6⟩ := h; exact ⟨a, h1, h2, h3, h4, h5, by rw [e]; exact h6.1, h6.2⟩
  | ins _ _ _ => obtain ⟨a, h1, h2, h3, h4, h5, h6⟩ := h; exact ⟨a, h1, h2, h3, h4, h5, by rw [e]; exact h6.1, h6.2⟩
/-- whatever came: as plain data -/
theorem OV.plain (P : Pre c W st σ H) {o : O} {v : V} (h : OV c W st σ H v o) : ∃ W', Step c.rw W H W' H ∧ Pre c W' st σ H ∧ Rp W' H v o.toD ∧ W'.L = W.L := by
  have go : ∀ {o : O} {a : Addr}, OwnAt W H a o → ¬ W.own a → c.H0 a = none → ((∀ i, ¬ slotOwns st.ρ σ i a) ∧ ¬ c.R a) → ∃ W', Step c.rw W H W' H ∧ Pre c W' st σ H ∧ Rp W' H (.ref a) o.toD ∧ W'.L = W.L := fun {o a} q h4 h5 h6 => by
    obtain ⟨u, hu, _⟩ := q.there
    obtain ⟨s, P'⟩ := P.freeze0 h4 h5 h6.1 h6.2 ⟨u, hu⟩
    exact ⟨_, s, P', OwnAt.rep (.inr rfl) (q.fut (P.fut s) rfl), rfl⟩
  cases o with
  | un => exact h.elim
  | d x => exact ⟨W, .refl _ _ _, P, h, rfl⟩
  | lst _ => obtain ⟨a, rfl, h2, h3, h4, h5, h6⟩ := h; exact go h2 h4 h5 h6
  | dK _ => obtain ⟨a, rfl, h2, h3, h4, h5, h6⟩ := h; exact go h2 h4 h5 h6
  | dT _ => obtain ⟨a, rfl, h2, h3, h4, h5, h6⟩ := h; exact go h2 h4 h5 h6
  | ins _ _ _ => obtain ⟨a, rfl, h2, h3, h4, h5, h6⟩ := h; exact go h2 h4 h5 h6
end
/-! ### expressions -/
section
variable {X : Cx} {e a b : Expr} {f f1 f2 : Ex} {g : Ox} {pos : Pos}
def xF (f : Ox) : Ex := fun E st Q => f E st fun o st' => Q (.v o.toD) st'
/-- what came, for a slot: a slot's thing that is read becomes plain -/
def frz (st : Ps) : R → Option (D × Ps)
  | .v d => some (d, st)
  | .ref i => match st.ρ[i]? with
    | some .un => none
    | some (.d x) => some (x, st)
    | some o => some (o.toD, { st with ρ := st.ρ.set i (.d o.toD) })
    | none => none
def xU (f : Ex) : Ox := fun E st Q => f E st fun r st' => opt (frz st' r) fun q => Q (.d q.1) q.2
theorem px_F (h : PO X e g) : PX X e (xF g) := fun c l => peOf (h c l) fun σ H Q ⟨W, st, H1, Q0, hH, P, q, k⟩ => ⟨W, st, H1, _, hH, P, q, fun o st' v W' H2 q0 s P2 ov => by
  obtain ⟨W3, s3, P3, r, eL⟩ := OV.plain P2 ov
  rw [← eL]
  exact k _ _ _ _ _ q0 (s.trans s3) P3 r⟩
theorem frz_ok {c : C0} {W : Wd} {st : Ps} {σ : L2.St} {H : Hp} (P : Pre c W st σ H) {r : R} {v : V} {q : D × Ps} (e : frz st r = some q) (h : RV W σ H v r) : ∃ W', Step c.rw W H W' H ∧ Pre c W' q.2 σ H ∧ Rp W' H v q.1 ∧ W'.L = W.L := by
  cases r with
  | v d =>
    cases e
    exact ⟨W, .refl _ _ _, P, h, rfl⟩
  | ref i =>
    have h' : σ[i]? = some (some v) := h
    unfold frz at e
    dsimp only at e
    cases z : st.ρ[i]? with
    | none => rw [z] at e; cases e
    | some o =>
      rw [z] at e
      have so := P.slot i o z
      rw [h'] at so
      have go : o.owned = true → some (o.toD, { st with ρ := st.ρ.set i (.d o.toD) }) = some q → ∃ W', Step c.rw W H W' H ∧ Pre c W' q.2 σ H ∧ Rp W' H v q.1 ∧ W'.L = W.L := fun ho e => by
        cases e
        obtain ⟨a, e1, e2⟩ := SlotOk.own ho so
        cases e1
        obtain ⟨s, P', r⟩ := P.freeze z ho h'
        exact ⟨_, s, P', r, rfl⟩
      cases o with
      | un => cases e
      | d x =>
        cases e
        obtain ⟨v', e1, e2⟩ := so
        cases e1
        exact ⟨W, .refl _ _ _, P, e2, rfl⟩
      | lst _ => exact go rfl e
      | dK _ => exact go rfl e
      | dT _ => exact go rfl e
      | ins _ _ _ => exact go rfl e
theorem po_U (h : PX X e f) : PO X e (xU f) := fun c l => peOf (h c l) fun σ H Q ⟨W, st, H1, Q0, hH, P, q, k⟩ => ⟨W, st, H1, _, hH, P, q, fun r st' v W' H2 q0 s P2 rv => by
  obtain ⟨y, e, q1⟩ := opt_ex q0
  obtain ⟨W3, s3, P3, r, eL⟩ := frz_ok P2 e rv
  rw [← eL]
  exact k _ _ _ _ _ q1 (s.trans s3) P3 r⟩
/-! ### names and constants -/
def xC (d : D) : Ex := fun _ st Q => Q (.v d) st
def xV (i : Nat) : Ex := fun _ st Q => match st.ρ[i]? with
  | some .un => False
  | some (.d x) => Q (.v x) st
  | some _ => Q (.ref i) st
  | none => False
theorem px_C {d : D} {v : V} (h : PE X e (tC v)) (r : ∀ φ F H, Rep φ F H v d) : PX X e (xC d) := fun c l => peOf h fun σ H Q ⟨W, st, H1, Q0, hH, P, q, k⟩ => by
  subst hH
  exact k _ _ _ _ _ q (.refl _ _ _) P (r _ _ _)
theorem px_int {i j} : PX X (.Constant (.int i) j pos) (xC (.int i)) := px_C pe_int fun _ _ _ => .int _
theorem px_bl {i j} : PX X (.Constant (.bool i) j pos) (xC (.bl i)) := px_C pe_bl fun _ _ _ => .bl _
theorem px_str {i j} : PX X (.Constant (.str i) j pos) (xC (.str i)) := px_C pe_str fun _ _ _ => .str _
theorem px_non {j} : PX X (.Constant .none j pos) (xC .non) := px_C pe_non fun _ _ _ => .non
theorem px_var {i : Nat} (h : PE X e (tVar i)) : PX X e (xV i) := fun c l => peOf h fun σ H Q ⟨W, st, H1, Q0, hH, P, q, k⟩ => by
  subst hH
  unfold xV at q
  cases z : st.ρ[i]? with
  | none => rw [z] at q; exact q.elim
  | some o =>
    rw [z] at q
    have so := P.slot i o z
    have go : ∀ {a : Addr}, σ[i]?.join = some (.ref a) → Q0 (.ref i) st → tVar i σ (lockH W.L H1) Q := fun {a} e1 q => ⟨_, join_ref e1, k _ _ _ _ _ q (.refl _ _ _) P (join_ref e1)⟩
    cases o with
    | un => exact q.elim
    | d x =>
      obtain ⟨v', e1, e2⟩ := so
      exact ⟨v', join_ref e1, k _ _ _ _ _ q (.refl _ _ _) P e2⟩
    | lst _ => obtain ⟨a, e1, e2⟩ := so; exact go e1 q
    | dK _ => obtain ⟨a, e1, e2⟩ := so; exact go e1 q
    | dT _ => obtain ⟨a, e1, e2⟩ := so; exact go e1 q
    | ins _ _ _ => obtain ⟨a, e1, e2⟩ := so; exact go e1 q
/-! ### operators: g of the data -/
def xOp (g : D → D → Option O) (f1 f2 : Ex) : Ox := fun E st Q => f1 E st fun r1 st1 => f2 E st1 fun r2 st2 => opt (look st2 r1) fun d1 => opt (look st2 r2) fun d2 => opt (g d1 d2) fun o => Q o st2
def OpG (r : V → V → Hp → VK → Prop) (g : D → D → Option O) : Prop := ∀ c W st σ H v1 v2 d1 d2 o Q, Pre c W st σ H → Top W.φ W.F H v1 d1 → Top W.φ W.F H v2 d2 → g d1 d2 = some o → Res c W st σ H o Q → r v1 v2 (lockH W.L H) Q
/-- two parts, then a step by values -/
theorem op_go {r : V → V → Hp → VK → Prop} {g : D → D → Option O} (hr : OpG r g) {c : C0} {σ : L2.St} {H : Hp} {Q : VK} (h : tO c (xOp g f1 f2) σ H Q) : tX c f1 σ H fun x H1 => tX c f2 σ H1 fun y H2 => r x y H2 Q := by
  obtain ⟨W, st, H1, Q0, hH, P, q, k⟩ := h
  refine ⟨W, st, H1, _, hH, P, q, fun r1 st1 v1 W1 H2 q1 s1 P1 rv1 => ⟨W1, st1, H2, _, rfl, P1, q1, fun r2 st2 v2 W2 H3 q2 s2 P2 rv2 => ?_⟩⟩
  obtain ⟨d1, e1, q2⟩ := opt_ex q2
  obtain ⟨d2, e2, q2⟩ := opt_ex q2
  obtain ⟨o, e3, q2⟩ := opt_ex q2
  exact hr c W2 st2 σ H3 v1 v2 d1 d2 o Q P2 (P2.top (rv1.step P1 s2) e1) (P2.top rv2 e2) e3 fun v W' H4 s4 P4 ov => k _ _ _ _ _ q2 ((s1.trans s2).trans s4) P4 ov
theorem po_2 {ee : Expr} {r : V → V → Hp → VK → Prop} {g : D → D → Option O} (hr : OpG r g) (h : ∀ {t1 t2 : TE}, PE X a t1 → PE X b t2 → PE X ee (tOp r t1 t2)) (h1 : PX X a f1) (h2 : PX X b f2) : PO X ee (xOp g f1 f2) :=
  fun c l => peOf (h (h1 c l) (h2 c l)) fun σ H Q q => op_go hr q
/-- one part, then a step by values -/
def xUn (g : List Cell → D → (O → Prop) → Prop) (f : Ex) : Ox := fun E st Q => f E st fun r st1 => opt (look st1 r) fun d => g st1.S d fun o => Q o st1
def UnG (r : V → Hp → VK → Prop) (g : List Cell → D → (O → Prop) → Prop) : Prop := ∀ (c : C0) (W : Wd) (st : Ps) (σ : L2.St) (H : Hp) (v : V) (d : D) (Q : VK) (J : O → Prop), Pre c W st σ H → Top W.φ W.F H v d → g st.S d J → (∀ o, J o → Res c W st σ H o Q) → r v (lockH W.L H) Q
theorem po_1 {ee : Expr} {r : V → Hp → VK → Prop} {g : List Cell → D → (O → Prop) → Prop} (hr : UnG r g) (h : ∀ {t : TE}, PE X a t → PE X ee (fun σ H Q => t σ H fun x H1 => r x H1 Q)) (h1 : PX X a f) : PO X ee (xUn g f) :=
  fun c l => peOf (h (h1 c l)) fun σ H Q ⟨W, st, H1, Q0, hH, P, q, k⟩ => ⟨W, st, H1, _, hH, P, q, fun r1 st1 v W1 H2 q1 s1 P1 rv => by
    obtain ⟨d, e, q1⟩ := opt_ex q1
    exact hr c W1 st1 σ H2 v d Q _ P1 (P1.top rv e) q1 fun o qo v' W' H4 s4 P4 ov => k _ _ _ _ _ qo (s1.trans s4) P4 ov⟩
end
end Q
namespace Q
open PySem L2
/-! ### arguments -/
section
variable {X : Cx} {e a b : Expr} {es : List Expr} {f f1 f2 : Ex} {g : Ox} {ga : Ax} {pos p : Pos}
def xNil : Ax := fun _ st Q => Q [] st
def xCons (f : Ex) (g : Ax) : Ax := fun E st Q => f E st fun r st1 => g E st1 fun rs st2 => Q (r :: rs) st2
theorem pxa_nil : PXA X [] xNil := fun c l => paOf pa_nil fun σ H Q ⟨W, st, H1, Q0, hH, P, q, k⟩ => by
  subst hH
  exact k _ _ _ _ _ q (.refl _ _ _) P .nil
theorem args_go {c : C0} {σ : L2.St} {H : Hp} {Q : List V → Hp → Prop} (h : tXA c (xCons f ga) σ H Q) : tX c f σ H fun x H1 => tXA c ga σ H1 fun xs H2 => Q (x :: xs) H2 := by
  obtain ⟨W, st, H1, Q0, hH, P, q, k⟩ := h
  exact ⟨W, st, H1, _, hH, P, q, fun r1 st1 v1 W1 H2 q1 s1 P1 rv1 => ⟨W1, st1, H2, _, rfl, P1, q1, fun rs st2 vs W2 H3 q2 s2 P2 rvs => k _ _ _ _ _ q2 (s1.trans s2) P2 (.cons (rv1.step P1 s2) rvs)⟩⟩
theorem pxa_cons (h : PX X e f) (hr : PXA X es ga) (hs : starEach (e :: es) X.env = (false, eval e X.env) :: starEach es X.env := by rfl) : PXA X (e :: es) (xCons f ga) := fun c l =>
  paOf (pa_cons (h c l) (hr c l) hs) fun σ H Q h => args_go h
def looks (st : Ps) : List R → Option (List D)
  | [] => some []
  | r :: rs => match look st r, looks st rs with
    | some d, some ds => some (d :: ds)
    | _, _ => none
inductive Tops (φ : List (Addr × Addr)) (F : Addr → Prop) (H : Hp) : List V → List D → Prop
  | nil : Tops φ F H [] []
  | cons {v : V} {d : D} {vs : List V} {ds : List D} : Top φ F H v d → Tops φ F H vs ds → Tops φ F H (v :: vs) (d :: ds)
theorem Pre.tops {c : C0} {W : Wd} {st : Ps} {σ : L2.St} {H : Hp} (P : Pre c W st σ H) : ∀ {rs : List R} {vs : List V} {ds : List D}, RVs W σ H vs rs → looks st rs = some ds → Tops W.φ W.F H vs ds
  | [], _, _, .nil, e => by cases e; exact .nil
  | r :: rs, _, _, .cons h t, e => by
    unfold looks at e
    cases q1 : look st r with
    | none => rw [q1] at e; cases e
    | some d =>
      cases q2 : looks st rs with
      | none => rw [q1, q2] at e; cases e
      | some ds =>
        rw [q1, q2] at e
        cases e
        exact .cons (P.top h q1) (P.tops t q2)
def frzs (st : Ps) : List R → Option (List D × Ps)
  | [] => some ([], st)
  | r :: rs => match frz st r with
    | none => none
    | some q => match frzs q.2 rs with
      | none => none
      | some q' => some (q.1 :: q'.1, q'.2)
theorem frzs_ok {c : C0} {σ : L2.St} {H : Hp} : ∀ {rs : List R} {W : Wd} {st : Ps} {vs : List V} {q : List D × Ps}, Pre c W st σ H → frzs st rs = some q → RVs W σ H vs rs → ∃ W', Step c.rw W H W' H ∧ Pre c W' q.2 σ H ∧ RepL W'.φ W'.F H vs q.1 ∧ W'.L = W.L
  | [], W, st, _, q, P, e, .nil => by cases e; exact ⟨W, .refl _ _ _, P, .nil, rfl⟩
  | r :: rs, W, st, _, q, P, e, .cons h t => by
    unfold frzs at e
    cases q1 : frz st r with
    | none => rw [q1] at e; cases e
    | some y =>
      rw [q1] at e
      dsimp only at e
      cases q2 : frzs y.2 rs with
      | none => rw [q2] at e; cases e
      | some z =>
        rw [q2] at e
        cases e
        obtain ⟨W1, s1, P1, r1, l1⟩ := frz_ok P q1 h
        obtain ⟨W2, s2, P2, r2, l2⟩ := frzs_ok P1 q2 (t.step P s1)
        exact ⟨W2, s1.trans s2, P2, .cons (r1.fut (P1.fut s2)) r2, l2.trans l1⟩
/-! ### displays -/
def xTup (g : Ax) : Ox := fun E st Q => g E st fun rs st1 => opt (frzs st1 rs) fun q => q.1.length ≤ sizeLine ∧ Q (.d (.tup q.1)) q.2
def xLst (g : Ax) : Ox := fun E st Q => g E st fun rs st1 => opt (frzs st1 rs) fun q => q.1.length ≤ sizeLine ∧ Q (.lst q.1) q.2
theorem RepL.length {φ F H} : ∀ {vs : List V} {ds : List D}, RepL φ F H vs ds → vs.length = ds.length
  | _, _, .nil => rfl
  | _, _, .cons _ t => congrArg (· + 1) t.length
theorem po_tup {x1} (h : PXA X es ga) : PO X (.Tuple es x1 pos) (xTup ga) := fun c l => peOf (pe_tup (h c l)) fun σ H Q ⟨W, st, H1, Q0, hH, P, q, k⟩ => ⟨W, st, H1, _, hH, P, q, fun rs st1 vs W1 H2 q1 s1 P1 rvs => by
  obtain ⟨y, e, hl, q2⟩ := opt_ex q1
  obtain ⟨W2, s2, P2, r2, eL⟩ := frzs_ok P1 e rvs
  rw [← eL]
  exact ⟨by rw [r2.length]; exact hl, Res.newT P2 (fun v W' H3 s3 P3 ov => k _ _ _ _ _ q2 ((s1.trans s2).trans s3) P3 ov) r2⟩⟩
theorem po_lst (h : PXA X es ga) : PO X (.List es pos) (xLst ga) := fun c l => peOf (pe_lst (h c l)) fun σ H Q ⟨W, st, H1, Q0, hH, P, q, k⟩ => ⟨W, st, H1, _, hH, P, q, fun rs st1 vs W1 H2 q1 s1 P1 rvs => by
  obtain ⟨y, e, hl, q2⟩ := opt_ex q1
  obtain ⟨W2, s2, P2, r2, eL⟩ := frzs_ok P1 e rvs
  rw [← eL]
  exact ⟨by rw [r2.length]; exact hl, Res.new P2 (o := .lst y.1) (fun v W' H3 s3 P3 ov => k _ _ _ _ _ q2 ((s1.trans s2).trans s3) P3 ov) rfl fun p hp => ⟨vs, upd_same, r2.fut (fut_new W2 hp)⟩⟩⟩
/-! ### built-in calls: g of the data -/
abbrev Gc := List D → (O → Prop) → Prop
def xB (g : Gc) (fs : Ax) : Ox := fun E st Q => fs E st fun rs st1 => opt (looks st1 rs) fun ds => g ds fun o => Q o st1
def CallG (r : List V → Hp → VK → Prop) (g : Gc) : Prop := ∀ (c : C0) (W : Wd) (st : Ps) (σ : L2.St) (H : Hp) (vs : List V) (ds : List D) (Q : VK) (J : O → Prop), Pre c W st σ H → Tops W.φ W.F H vs ds → g ds J → (∀ o, J o → Res c W st σ H o Q) → r vs (lockH W.L H) Q
theorem b_go {r : List V → Hp → VK → Prop} {g : Gc} (hr : CallG r g) {c : C0} {σ : L2.St} {H : Hp} {Q : VK} (h : tO c (xB g ga) σ H Q) : tXA c ga σ H fun vs H1 => r vs H1 Q := by
  obtain ⟨W, st, H1, Q0, hH, P, q, k⟩ := h
  refine ⟨W, st, H1, _, hH, P, q, fun rs st1 vs W1 H2 q1 s1 P1 rvs => ?_⟩
  obtain ⟨ds, e1, q1⟩ := opt_ex q1
  exact hr c W1 st1 σ H2 vs ds Q _ P1 (P1.tops rvs e1) q1 fun o qo v W' H4 s4 P4 ov => k _ _ _ _ _ qo (s1.trans s4) P4 ov
theorem po_b {ee : Expr} {r : List V → Hp → VK → Prop} {g : Gc} (hr : CallG r g) (h : ∀ {t : TA}, PA X es t → PE X ee (tCB r t)) (ha : PXA X es ga) : PO X ee (xB g ga) := fun c l => peOf (h (ha c l)) fun σ H Q q => b_go hr q
/-! ### tests -/
def truD : D → Option Bool
  | .non => some false
  | .bl b => some b
  | .int i => some (i != 0)
  | .lst xs => some (!xs.isEmpty)
  | .tup xs => some (!xs.isEmpty)
  | _ => none
def xT (f : Ex) : Tx := fun E st Q => f E st fun r st1 => opt (look st1 r) fun d => opt (truD d) fun b => Q b st1
theorem RepL.isEmpty {φ F H} : ∀ {vs : List V} {ds : List D}, RepL φ F H vs ds → ds.isEmpty = vs.isEmpty
  | _, _, .nil => rfl
  | _, _, .cons _ _ => rfl
theorem pxt_val (h : PX X e f) (he : ∀ whole, isTrue e X.env whole = (do let v ← whole; standAt e.pos; holding [v] (truthy v)) := by intro _; rfl) : PXT X e (xT f) := fun c l => ptOf (pt_truth (h c l) he) fun σ H Q ⟨W, st, H1, Q0, hH, P, q, k⟩ => ⟨W, st, H1, _, hH, P, q, fun r st1 v W1 H2 q1 s1 P1 rv => by
  obtain ⟨d, e1, q1⟩ := opt_ex q1
  obtain ⟨b, e2, q1⟩ := opt_ex q1
  have t := P1.top rv e1
  refine ⟨b, ?_, k _ _ _ _ q1 s1 P1⟩
  cases t with
  | non => cases e2; rfl
  | bl x => cases e2; rfl
  | int i => cases e2; rfl
  | str i => cases e2
  | byt i => cases e2
  | ty i => cases e2
  | cls i => cases e2
  | cell i => cases e2
  | rows i => cases e2
  | scr i => cases e2
  | dK h1 h2 => cases e2
  | dT h1 h2 => cases e2
  | ins h1 h2 => cases e2
  | exc h1 h2 h3 => cases e2
  | lst h1 h2 => cases e2; exact .inl ⟨_, SqL.of (P1.nol h1 rfl), by rw [h2.isEmpty]⟩
  | tup h1 h2 => cases e2; exact .inr (.inl ⟨_, SqT.of (P1.nol h1 rfl), by rw [h2.isEmpty]⟩)⟩
/-- an expression's value, as a bool -/
def isB : O → Option Bool
  | .d (.bl b) => some b
  | _ => none
def xTO (f : Ox) : Tx := fun E st Q => f E st fun o st1 => opt (isB o) fun b => Q b st1
theorem ov_bl {c : C0} {W : Wd} {st : Ps} {σ : L2.St} {H : Hp} {v : V} {o : O} {b : Bool} (h : OV c W st σ H v o) (e : isB o = some b) : v = .bl b := by
  unfold isB at e
  split at e
  · cases e
    have h' : Rp W H v (.bl _) := h
    cases h'
    rfl
  · cases e
theorem pxt_2 {ee : Expr} {r : V → V → Hp → VK → Prop} {g : D → D → Option O} (hr : OpG r g) (h : ∀ {t1 t2 : TE}, PE X a t1 → PE X b t2 → PT X ee (tTest (tOp r t1 t2))) (h1 : PX X a f1) (h2 : PX X b f2) : PXT X ee (xTO (xOp g f1 f2)) :=
  fun c l => ptOf (h (h1 c l) (h2 c l)) fun σ H Q h => by
    obtain ⟨W, st, H1, Q0, hH, P, q, k⟩ := h
    refine op_go hr (f1 := f1) (f2 := f2) ⟨W, st, H1, _, hH, P, q, fun o st1 v W1 H2 q1 s1 P1 ov => ?_⟩
    obtain ⟨d, e1, q1⟩ := opt_ex q1
    exact ⟨d, ov_bl ov e1, k _ _ _ _ q1 s1 P1⟩
def xNotT (t : Tx) : Tx := fun E st Q => t E st fun b st1 => Q (!b) st1
def xAndT (t u : Tx) : Tx := fun E st Q => t E st fun b st1 => if b = true then u E st1 Q else Q false st1
def xOrT (t u : Tx) : Tx := fun E st Q => t E st fun b st1 => if b = true then Q true st1 else u E st1 Q
variable {tt uu : Tx} {rest : List Expr}
theorem pxt_not (h : PXT X a tt) : PXT X (.UnaryOp .Not a pos) (xNotT tt) := fun c l => ptOf (pt_not (h c l)) fun σ H Q ⟨W, st, H1, Q0, hH, P, q, k⟩ => ⟨W, st, H1, _, hH, P, q, fun b st1 W1 H2 q1 s1 P1 => k _ _ _ _ q1 s1 P1⟩
def PXW (X : Cx) (e : Expr) (f : Tx) : Prop := ∀ c, Lk X c → PW X e (tXT c f)
theorem pwOf {e : Expr} {t t' : TT} (h : PW X e t) (m : ∀ σ H Q, t' σ H Q → t σ H Q) : PW X e t' := ⟨fun wh pins s σ H Q I q => h.run wh pins s σ H Q I (m σ H Q q)⟩
theorem pxw_t (h : PXW X e tt) : PXT X e tt := fun c l => PW.pt (h c l)
theorem pxw_and1 (h : PXT X a tt) : PXW X (.BoolOp .And [a] pos) tt := fun c l => pw_and1 (h c l)
theorem pxw_or1 (h : PXT X a tt) : PXW X (.BoolOp .Or [a] pos) tt := fun c l => pw_or1 (h c l)
theorem pxw_and (h1 : PXT X a tt) (h2 : PXW X (.BoolOp .And (b :: rest) pos) uu) : PXW X (.BoolOp .And (a :: b :: rest) pos) (xAndT tt uu) := fun c l => pwOf (pw_and (h1 c l) (h2 c l)) fun σ H Q ⟨W, st, H1, Q0, hH, P, q, k⟩ => ⟨W, st, H1, _, hH, P, q, fun b st1 W1 H2 q1 s1 P1 => by
  cases b with
  | true => exact iteT ⟨W1, st1, H2, Q0, rfl, P1, q1, fun b st2 W2 H3 q2 s2 P2 => k _ _ _ _ q2 (s1.trans s2) P2⟩
  | false => exact iteF (k _ _ _ _ q1 s1 P1)⟩
theorem pxw_or (h1 : PXT X a tt) (h2 : PXW X (.BoolOp .Or (b :: rest) pos) uu) : PXW X (.BoolOp .Or (a :: b :: rest) pos) (xOrT tt uu) := fun c l => pwOf (pw_or (h1 c l) (h2 c l)) fun σ H Q ⟨W, st, H1, Q0, hH, P, q, k⟩ => ⟨W, st, H1, _, hH, P, q, fun b st1 W1 H2 q1 s1 P1 => by
  cases b with
  | false => exact iteF ⟨W1, st1, H2, Q0, rfl, P1, q1, fun b st2 W2 H3 q2 s2 P2 => k _ _ _ _ q2 (s1.trans s2) P2⟩
  | true => exact iteT (k _ _ _ _ q1 s1 P1)⟩
/-! ### and, or, not as values of bools; a if t else b -/
def xAnd (f : Ex) (g : Ex) : Ex := fun E st Q => f E st fun r st1 => match r with
  | .v (.bl b) => if b = true then g E st1 Q else Q (.v (.bl false)) st1
  | _ => False
def xOr (f : Ex) (g : Ex) : Ex := fun E st Q => f E st fun r st1 => match r with
  | .v (.bl b) => if b = true then Q (.v (.bl true)) st1 else g E st1 Q
  | _ => False
def xNot (f : Ex) : Ex := fun E st Q => f E st fun r st1 => match r with
  | .v (.bl b) => Q (.v (.bl (!b))) st1
  | _ => False
theorem px_one {op} (h : PX X a f) : PX X (.BoolOp op [a] pos) f := fun c l => pe_one (h c l)
theorem rv_bl {W : Wd} {σ : L2.St} {H : Hp} {v : V} {b : Bool} (h : RV W σ H v (.v (.bl b))) : v = .bl b := by
  have h' : Rp W H v (.bl b) := h
  cases h'
  rfl
theorem px_and (h1 : PX X a f1) (h2 : PX X (.BoolOp .And (b :: rest) pos) f2) : PX X (.BoolOp .And (a :: b :: rest) pos) (xAnd f1 f2) := fun c l => peOf (pe_and (h1 c l) (h2 c l)) fun σ H Q ⟨W, st, H1, Q0, hH, P, q, k⟩ => ⟨W, st, H1, _, hH, P, q, fun r st1 v W1 H2 q1 s1 P1 rv => by
  split at q1
  · rename_i b
    refine ⟨b, rv_bl rv, ?_⟩
    cases b with
    | true => exact iteT ⟨W1, st1, H2, Q0, rfl, P1, q1, fun r st2 v W2 H3 q2 s2 P2 rv => k _ _ _ _ _ q2 (s1.trans s2) P2 rv⟩
    | false => exact iteF (k _ _ _ _ _ q1 s1 P1 (.bl false))
  · exact q1.elim⟩
theorem px_or (h1 : PX X a f1) (h2 : PX X (.BoolOp .Or (b :: rest) pos) f2) : PX X (.BoolOp .Or (a :: b :: rest) pos) (xOr f1 f2) := fun c l => peOf (pe_or (h1 c l) (h2 c l)) fun σ H Q ⟨W, st, H1, Q0, hH, P, q, k⟩ => ⟨W, st, H1, _, hH, P, q, fun r st1 v W1 H2 q1 s1 P1 rv => by
  split at q1
  · rename_i b
    refine ⟨b, rv_bl rv, ?_⟩
    cases b with
    | false => exact iteF ⟨W1, st1, H2, Q0, rfl, P1, q1, fun r st2 v W2 H3 q2 s2 P2 rv => k _ _ _ _ _ q2 (s1.trans s2) P2 rv⟩
    | true => exact iteT (k _ _ _ _ _ q1 s1 P1 (.bl true))
  · exact q1.elim⟩
theorem px_not (h1 : PX X a f1) : PX X (.UnaryOp .Not a pos) (xNot f1) := fun c l => peOf (pe_not (h1 c l)) fun σ H Q ⟨W, st, H1, Q0, hH, P, q, k⟩ => ⟨W, st, H1, _, hH, P, q, fun r st1 v W1 H2 q1 s1 P1 rv => by
  split at q1
  · rename_i b
    exact ⟨b, rv_bl rv, k _ _ _ _ _ q1 s1 P1 (.bl _)⟩
  · exact q1.elim⟩
def xIf (t : Tx) (f g : Ex) : Ex := fun E st Q => t E st fun b st1 => if b = true then f E st1 Q else g E st1 Q
def xIfO (t : Tx) (f g : Ox) : Ox := fun E st Q => t E st fun b st1 => if b = true then f E st1 Q else g E st1 Q
theorem px_if {x : Expr} (h : PXT X x tt) (h1 : PX X a f1) (h2 : PX X b f2) : PX X (.IfExp x a b pos) (xIf tt f1 f2) := fun c l => peOf (pe_ifExp (h c l) (h1 c l) (h2 c l)) fun σ H Q ⟨W, st, H1, Q0, hH, P, q, k⟩ => ⟨W, st, H1, _, hH, P, q, fun b st1 W1 H2 q1 s1 P1 => by
  cases b with
  | true => exact iteT ⟨W1, st1, H2, Q0, rfl, P1, q1, fun r st2 v W2 H3 q2 s2 P2 rv => k _ _ _ _ _ q2 (s1.trans s2) P2 rv⟩
  | false => exact iteF ⟨W1, st1, H2, Q0, rfl, P1, q1, fun r st2 v W2 H3 q2 s2 P2 rv => k _ _ _ _ _ q2 (s1.trans s2) P2 rv⟩⟩
end
end Q
namespace Q
open PySem L2
/-! ### data of the library's kind -/
mutual
def toP : D → Option PyData
  | .non => some .none
  | .bl b => some (.bool b)
  | .int i => some (.int i)
  | .str s => some (.str s)
  | .lst xs => match toPs xs with
    | some ps => some (.list ps)
    | none => none
  | .tup xs => match toPs xs with
    | some ps => some (.tuple ps)
    | none => none
  | _ => none
def toPs : List D → Option (List PyData)
  | [] => some []
  | x :: xs => match toP x, toPs xs with
    | some p, some ps => some (p :: ps)
    | _, _ => none
end
section
variable {c : C0} {W : Wd} {st : Ps} {σ : L2.St} {H : Hp} {K : PySem.W.Frag}
mutual
theorem Pre.dp (P : Pre c W st σ H) : ∀ {d : D} {v : V} {p : PyData}, Rp W H v d → toP d = some p → Dp K (lockH W.L H) v p
  | .non, _, _, h, e => by cases h; cases e; exact .non
  | .bl b, _, _, h, e => by cases h; cases e; exact .bl b
  | .int b, _, _, h, e => by cases h; cases e; exact .int b
  | .str b, _, _, h, e => by cases h; cases e; exact .str b
  | .lst xs, _, _, h, e => by
    cases h with
    | lst h1 h2 h3 =>
      unfold toP at e
      cases q : toPs xs with
      | none => rw [q] at e; cases e
      | some ps =>
        rw [q] at e
        cases e
        exact .lst (SqL.of (P.nol h2 rfl)) (P.dps h3 q)
  | .tup xs, _, _, h, e => by
    cases h with
    | tup h2 h3 =>
      unfold toP at e
      cases q : toPs xs with
      | none => rw [q] at e; cases e
      | some ps =>
        rw [q] at e
        cases e
        exact .tup (SqT.of (P.nol h2 rfl)) (P.dps h3 q)
  | .byt _, _, _, _, e => by cases e
  | .ty _, _, _, _, e => by cases e
  | .dK _, _, _, _, e => by cases e
  | .dT _, _, _, _, e => by cases e
  | .ins _ _, _, _, _, e => by cases e
  | .exc _ _ _ _, _, _, _, e => by cases e
  | .cell _, _, _, _, e => by cases e
  | .rows _, _, _, _, e => by cases e
  | .cls _, _, _, _, e => by cases e
  | .scr _, _, _, _, e => by cases e
theorem Pre.dps (P : Pre c W st σ H) : ∀ {ds : List D} {vs : List V} {ps : List PyData}, RepL W.φ W.F H vs ds → toPs ds = some ps → DpAll K (lockH W.L H) vs ps
  | [], _, _, h, e => by cases h; cases e; exact .nil
  | d :: ds, _, _, h, e => by
    cases h with
    | cons h1 h2 =>
      unfold toPs at e
      cases q1 : toP d with
      | none => rw [q1] at e; cases e
      | some p =>
        cases q2 : toPs ds with
        | none => rw [q1, q2] at e; cases e
        | some ps =>
          rw [q1, q2] at e
          cases e
          exact .cons (P.dp h1 q1) (P.dps h2 q2)
end
theorem Pre.dpt (P : Pre c W st σ H) {d : D} {v : V} {p : PyData} (h : Top W.φ W.F H v d) (e : toP d = some p) : Dp K (lockH W.L H) v p := by
  cases h with
  | non => cases e; exact .non
  | bl b => cases e; exact .bl b
  | int b => cases e; exact .int b
  | str b => cases e; exact .str b
  | lst h2 h3 =>
    unfold toP at e
    split at e
    · rename_i q
      cases e
      exact .lst (SqL.of (P.nol h2 rfl)) (P.dps h3 q)
    · cases e
  | tup h2 h3 =>
    unfold toP at e
    split at e
    · rename_i q
      cases e
      exact .tup (SqT.of (P.nol h2 rfl)) (P.dps h3 q)
    · cases e
  | byt _ => cases e
  | ty _ => cases e
  | dK _ _ => cases e
  | dT _ _ => cases e
  | ins _ _ => cases e
  | exc _ _ _ => cases e
  | cell _ => cases e
  | rows _ => cases e
  | cls _ => cases e
  | scr _ => cases e
end
/-! ### == and != -/
def eqP (a b : D) : Option Bool := match toP a, toP b with
  | some p, some q => if SeqAt.shaped p && SeqAt.shaped q then some (PyData.eqv p q) else none
  | _, _ => none
def eqG (a b : D) : Option O := match eqP a b with
  | some x => some (.d (.bl x))
  | none => none
def neG (a b : D) : Option O := match eqP a b with
  | some x => some (.d (.bl (!x)))
  | none => none
theorem eqP_ex {a b : D} {x : Bool} (h : eqP a b = some x) : ∃ p q, toP a = some p ∧ toP b = some q ∧ SeqAt.shaped p = true ∧ SeqAt.shaped q = true ∧ x = PyData.eqv p q := by
  unfold eqP at h
  cases e1 : toP a with
  | none => rw [e1] at h; cases h
  | some p =>
    cases e2 : toP b with
    | none => rw [e1, e2] at h; cases h
    | some q =>
      rw [e1, e2] at h
      dsimp only at h
      split at h
      · rename_i hs
        cases h
        rw [Bool.and_eq_true_iff] at hs
        exact ⟨p, q, rfl, rfl, hs.1, hs.2, rfl⟩
      · cases h
theorem g_eq (K : PySem.W.Frag) : OpG (rEqD K) eqG := fun c W st σ H v1 v2 d1 d2 o Q P t1 t2 e h => by
  unfold eqG at e
  split at e
  · rename_i x q
    cases e
    obtain ⟨p, q', e1, e2, e3, e4, rfl⟩ := eqP_ex q
    exact ⟨p, q', P.dpt t1 e1, P.dpt t2 e2, e3, e4, h.d P (.bl _)⟩
  · cases e
theorem g_ne (K : PySem.W.Frag) : OpG (rNeD K) neG := fun c W st σ H v1 v2 d1 d2 o Q P t1 t2 e h => by
  unfold neG at e
  split at e
  · rename_i x q
    cases e
    obtain ⟨p, q', e1, e2, e3, e4, rfl⟩ := eqP_ex q
    exact ⟨p, q', P.dpt t1 e1, P.dpt t2 e2, e3, e4, h.d P (.bl _)⟩
  · cases e
/-! ### numbers -/
def addG : D → D → Option O
  | .int i, .int j => some (.d (.int (i + j)))
  | .str a, .str b => if a.length + b.length ≤ sizeLine then some (.d (.str (a ++ b))) else none
  | .lst a, .lst b => if a.length + b.length ≤ sizeLine then some (.lst (a ++ b)) else none
  | .tup a, .tup b => if a.length + b.length ≤ sizeLine then some (.d (.tup (a ++ b))) else none
  | _, _ => none
def rAddA (K : PySem.W.Frag) : V → V → Hp → VK → Prop := fun x y H Q => rI0 (fun i j => .int (i + j)) x y H Q ∨ (∃ i j, x = .str i ∧ y = .str j ∧ i.length + j.length ≤ sizeLine ∧ Q (.str (i ++ j)) H) ∨ rCat x y H Q ∨ rCatA K x y H Q
theorem RepL.append {φ F H} : ∀ {vs us : List V} {ds es : List D}, RepL φ F H vs ds → RepL φ F H us es → RepL φ F H (vs ++ us) (ds ++ es)
  | _, _, _, _, .nil, h => h
  | _, _, _, _, .cons a t, h => .cons a (t.append h)
theorem op_addA {X : Cx} (K : PySem.W.Frag) (h : X.K = K := by rfl) : OpR X (binaryOp .Add) (rAddA K) := by
  subst h
  exact op_add.or (op_add_str.or (op_cat.or op_catA))
theorem g_add (K : PySem.W.Frag) : OpG (rAddA K) addG := fun c W st σ H v1 v2 d1 d2 o Q P t1 t2 e h => by
  unfold addG at e
  split at e
  · cases e; cases t1; cases t2
    exact .inl ⟨_, _, rfl, rfl, h.d P (.int _)⟩
  · split at e
    · rename_i hl
      cases e; cases t1; cases t2
      exact .inr (.inl ⟨_, _, rfl, rfl, hl, h.d P (.str _)⟩)
    · cases e
  · split at e
    · rename_i hl
      cases e
      cases t1 with
      | lst h1 r1 =>
        cases t2 with
        | lst h2 r2 =>
          refine .inr (.inr (.inl ⟨_, _, _, _, rfl, rfl, P.nol h1 rfl, P.nol h2 rfl, by rw [r1.length, r2.length]; exact hl, ?_⟩))
          exact h.new P rfl fun p hp => ⟨_, upd_same, (r1.append r2).fut (fut_new W hp)⟩
    · cases e
  · split at e
    · rename_i hl
      cases e
      cases t1 with
      | tup h1 r1 =>
        cases t2 with
        | tup h2 r2 =>
          refine .inr (.inr (.inr ⟨_, _, _, _, rfl, rfl, SqT.of (P.nol h1 rfl), SqT.of (P.nol h2 rfl), by rw [r1.length, r2.length]; exact hl, fun e => ?_, fun n e => ?_, fun n1 n2 => ?_⟩))
          · subst e
            cases r1
            exact h.d P (.tup h2 r2)
          · subst e
            cases r2
            exact h.d P (by rw [List.append_nil]; exact .tup h1 r1)
          · exact h.newT P (r1.append r2)
    · cases e
  · cases e
def iiG0 (f : Int → Int → D) : D → D → Option O
  | .int i, .int j => some (.d (f i j))
  | _, _ => none
theorem g_ii0 {f : Int → Int → V} {f' : Int → Int → D} (hf : ∀ i j φ F H, Rep φ F H (f i j) (f' i j)) : OpG (rI0 f) (iiG0 f') := fun c W st σ H v1 v2 d1 d2 o Q P t1 t2 e h => by
  unfold iiG0 at e
  split at e
  · cases e; cases t1; cases t2
    exact ⟨_, _, rfl, rfl, h.d P (hf _ _ _ _ _)⟩
  · cases e
abbrev subG := iiG0 fun i j => .int (i - j)
abbrev ltG := iiG0 fun i j => .bl (decide (i < j))
abbrev leG := iiG0 fun i j => .bl (decide (i ≤ j))
abbrev gtG := iiG0 fun i j => .bl (decide (j < i))
abbrev geG := iiG0 fun i j => .bl (decide (j ≤ i))
theorem g_sub : OpG (rI0 fun i j => .int (i - j)) subG := g_ii0 fun _ _ _ _ _ => .int _
theorem g_le : OpG (rI0 fun i j => .bl (decide (i ≤ j))) leG := g_ii0 fun _ _ _ _ _ => .bl _
/-! ### in, not in -/
def inD (neg : Bool) : D → D → Option O
  | .str x, .str z => match x.cps.toList with
    | [c] => some (.d (.bl (if neg then !decide (c ∈ z.cps.toList) else decide (c ∈ z.cps.toList))))
    | _ => none
  | d, .lst ds => match toP d, toPs ds with
    | some p, some ps => if SeqAt.shaped p && SeqAt.shaped (.list ps) then some (.d (.bl (if neg then !(ps.any fun z => PyData.eqv z p) else ps.any fun z => PyData.eqv z p))) else none
    | _, _ => none
  | .str x, .tup ds => match toPs ds with
    | some ps => if ps.all (fun p => match p with | .str _ => true | _ => false) then some (.d (.bl (if neg then !(ps.any fun z => PyData.eqv z (.str x)) else ps.any fun z => PyData.eqv z (.str x)))) else none
    | none => none
  | _, _ => none
def rInA (K : PySem.W.Frag) : V → V → Hp → VK → Prop := fun x y H Q => (∃ (c : Nat) (z : Str), x = .str ⟨#[c]⟩ ∧ y = .str z ∧ Q (.bl (decide (c ∈ z.cps.toList))) H) ∨ rInD K x y H Q ∨ rIn K false x y H Q
def rNotInA (K : PySem.W.Frag) : V → V → Hp → VK → Prop := fun x y H Q => (∃ (c : Nat) (z : Str), x = .str ⟨#[c]⟩ ∧ y = .str z ∧ Q (.bl (!decide (c ∈ z.cps.toList))) H) ∨ rNotInD K x y H Q ∨ rIn K true x y H Q
theorem op_inA {X : Cx} (K : PySem.W.Frag) (hu : X.A.units + 65 < cLine) (h : X.K = K := by rfl) : OpR X (compareOp .In) (rInA K) := by
  subst h
  exact op_in_sign.or ((op_inD hu).or op_in_seq)
theorem op_notInA {X : Cx} (K : PySem.W.Frag) (hu : X.A.units + 65 < cLine) (h : X.K = K := by rfl) : OpR X (compareOp .NotIn) (rNotInA K) := by
  subst h
  exact op_notIn_sign.or ((op_notInD hu).or op_notIn_seq)
theorem strs_of {φ F H} : ∀ {ds : List D} {vs : List V} {ps : List PyData}, RepL φ F H vs ds → toPs ds = some ps → ps.all (fun p => match p with | .str _ => true | _ => false) = true → ∃ ss : List Str, vs = ss.map V.str ∧ ps = ss.map PyData.str
  | [], _, _, h, e, _ => by cases h; cases e; exact ⟨[], rfl, rfl⟩
  | d :: ds, _, _, h, e, a => by
    cases h with
    | cons h1 h2 =>
      unfold toPs at e
      cases q1 : toP d with
      | none => rw [q1] at e; cases e
      | some p =>
        cases q2 : toPs ds with
        | none => rw [q1, q2] at e; cases e
        | some ps =>
          rw [q1, q2] at e
          cases e
          rw [List.all_cons, Bool.and_eq_true] at a
          obtain ⟨ss, e1, e2⟩ := strs_of h2 q2 a.2
          cases p with
          | str s =>
            cases d with
            | str s' =>
              cases q1
              cases h1
              exact ⟨s :: ss, by rw [e1]; rfl, by rw [e2]; rfl⟩
            | lst xs => unfold toP at q1; split at q1 <;> cases q1
            | tup xs => unfold toP at q1; split at q1 <;> cases q1
            | _ => cases q1
          | _ => cases a.1
theorem any_strs (x : Str) : ∀ ss : List Str, (ss.map V.str).any (fun y => eqV y (.str x)) = (ss.map PyData.str).any fun z => PyData.eqv z (.str x)
  | [] => rfl
  | s :: ss => by
    rw [List.map_cons, List.map_cons, List.any_cons, List.any_cons, any_strs x ss]
    congr 1
theorem g_in (K : PySem.W.Frag) : OpG (rInA K) (inD false) := fun c W st σ H v1 v2 d1 d2 o Q P t1 t2 e h => by
  unfold inD at e
  split at e
  · rename_i x z
    split at e
    · rename_i c hc
      cases e; cases t1; cases t2
      have hx : x = ⟨#[c]⟩ := by
        cases x with
        | mk a =>
          have : a.toList = [c] := hc
          rw [show a = #[c] from by rw [← Array.toArray_toList (xs := a), this]]
      subst hx
      exact .inl ⟨c, z, rfl, rfl, h.d P (.bl _)⟩
    · cases e
  · split at e
    · rename_i p ps q1 q2
      split at e
      · rename_i hs
        rw [Bool.and_eq_true] at hs
        cases e
        cases t2 with
        | lst h1 r1 => exact .inr (.inl ⟨p, ps, P.dpt t1 q1, .lst (SqL.of (P.nol h1 rfl)) (P.dps r1 q2), hs.1, hs.2, h.d P (.bl _)⟩)
      · cases e
    · cases e
  · split at e
    · rename_i ps q2
      split at e
      · rename_i hs
        cases e; cases t1
        cases t2 with
        | tup h1 r1 =>
          obtain ⟨ss, rfl, rfl⟩ := strs_of r1 q2 hs
          refine .inr (.inr ⟨_, _, rfl, .inr (SqT.of (P.nol h1 rfl)), rfl, flat_strs ss, ?_⟩)
          unfold inV
          rw [any_strs]
          exact h.d P (.bl _)
      · cases e
    · cases e
  · cases e
theorem g_notIn (K : PySem.W.Frag) : OpG (rNotInA K) (inD true) := fun c W st σ H v1 v2 d1 d2 o Q P t1 t2 e h => by
  unfold inD at e
  split at e
  · rename_i x z
    split at e
    · rename_i c hc
      cases e; cases t1; cases t2
      have hx : x = ⟨#[c]⟩ := by
        cases x with
        | mk a =>
          have : a.toList = [c] := hc
          rw [show a = #[c] from by rw [← Array.toArray_toList (xs := a), this]]
      subst hx
      exact .inl ⟨c, z, rfl, rfl, h.d P (.bl _)⟩
    · cases e
  · split at e
    · rename_i p ps q1 q2
      split at e
      · rename_i hs
        rw [Bool.and_eq_true] at hs
        cases e
        cases t2 with
        | lst h1 r1 => exact .inr (.inl ⟨p, ps, P.dpt t1 q1, .lst (SqL.of (P.nol h1 rfl)) (P.dps r1 q2), hs.1, hs.2, h.d P (.bl _)⟩)
      · cases e
    · cases e
  · split at e
    · rename_i ps q2
      split at e
      · rename_i hs
        cases e; cases t1
        cases t2 with
        | tup h1 r1 =>
          obtain ⟨ss, rfl, rfl⟩ := strs_of r1 q2 hs
          refine .inr (.inr ⟨_, _, rfl, .inr (SqT.of (P.nol h1 rfl)), rfl, flat_strs ss, ?_⟩)
          unfold inV
          rw [any_strs]
          exact h.d P (.bl _)
      · cases e
    · cases e
  · cases e
end Q
namespace Q
open PySem L2
section
variable {X : Cx} {e a b : Expr} {es : List Expr} {f f1 f2 : Ex} {g g1 g2 : Ox} {ga : Ax} {pos p : Pos} {s : Stmt} {rest sts : List Stmt} {sf sg : Sx} {tt : Tx}
/-! ### blocks -/
def sNx : Sx := fun _ K st => K.nx st
def sSeq (f g : Sx) : Sx := fun E K st => f E { K with nx := g E K } st
theorem pxb_nil : PXB X [] sNx := fun c l => pssOf pss_nil fun D σ H ⟨W, st, H1, K, hH, P, ek, q⟩ => by
  subst hH
  exact ek.1 _ _ _ _ q P (.refl _ _)
theorem pxb_cons (h1 : PXS X s sf) (h2 : PXB X rest sg) : PXB X (s :: rest) (sSeq sf sg) := fun c l => pssOf (pss_cons (h1 c l) (h2 c l)) fun D σ H ⟨W, st, H1, K, hH, P, ek, q⟩ =>
  ⟨W, st, H1, { K with nx := sg c.E K }, hH, P, ⟨fun st' W' σ' H' q' P' a => ⟨W', st', H', K, rfl, P', ek.aft a, q'⟩, ek.2.1, ek.2.2.1, ek.2.2.2⟩, q⟩
theorem pxb_one (h1 : PXS X s sf) : PXB X [s] sf := fun c l => pss_one (h1 c l)
def sCt : Sx := fun _ K st => K.ct st
theorem pxs_continue : PXS X (.Continue pos) sCt := fun c l => psOf ps_continue fun D σ H ⟨W, st, H1, K, hH, P, ek, q⟩ => by
  subst hH
  exact ek.2.2.2 _ _ _ _ q P (.refl _ _)
/-! ### return -/
def sRet (g : Ox) : Sx := fun E K st => g E st K.rt
theorem pxs_ret (h : PO X e g) : PXS X (.Return (some e) pos) (sRet g) := fun c l => psOf (ps_ret (h c l)) fun D σ H ⟨W, st, H1, K, hH, P, ek, q⟩ =>
  ⟨W, st, H1, _, hH, P, q, fun o st' v W' H2 q0 s P' ov => ek.2.1 _ _ _ _ _ _ q0 P' (P.aft s) ov⟩
def sRetN : Sx := fun _ K st => K.rt (.d .non) st
/-- a slot's thing, handed on -/
def xMv (i : Nat) : Ox := fun _ st Q => match st.ρ[i]? with
  | some .un => False
  | some (.d x) => Q (.d x) st
  | some o => Q o { st with ρ := st.ρ.set i .un }
  | none => False
theorem Pre.drop {c : C0} {W : Wd} {st : Ps} {σ : L2.St} {H : Hp} (P : Pre c W st σ H) (i : Nat) : Pre c W { st with ρ := st.ρ.set i .un } σ H := by
  have low : ∀ {j : Nat} {a : Addr}, slotOwns (st.ρ.set i .un) σ j a → slotOwns st.ρ σ j a := fun {j a} z => by
    rcases owns_setO z with ⟨_, z, _⟩ | ⟨_, z⟩
    · cases z
    · exact z
  refine ⟨P.hrw, P.step, P.new, P.base, by simp only [List.length_set]; exact P.slen, fun j o h => ?_, fun j a z => P.sown j a (low z), fun j k a z y => P.sapart j k a (low z) (low y), fun a h => ?_, P.hvw, P.own0⟩
  · by_cases q : j = i
    · subst q
      rw [List.getElem?_set, if_pos rfl] at h
      split at h
      · cases h
        exact trivial
      · cases h
    · rw [List.getElem?_set_ne (Ne.symm q)] at h
      exact P.slot j o h
  · obtain ⟨h1, h2, h3, h4⟩ := P.rsv a h
    exact ⟨h1, h2, h3, fun j z => h4 j (low z)⟩
theorem OV.of_own {c : C0} {W : Wd} {st : Ps} {σ : L2.St} {H : Hp} {a : Addr} {o : O} (ho : o.owned = true) (h : OwnAt W H a o ∧ ¬ W.F a ∧ ¬ W.own a ∧ c.H0 a = none ∧ (∀ i, ¬ slotOwns st.ρ σ i a) ∧ ¬ c.R a) : OV c W st σ H (.ref a) o := by
  cases o with
  | un => cases ho
  | d x => cases ho
  | lst _ => exact ⟨a, rfl, h⟩
  | dK _ => exact ⟨a, rfl, h⟩
  | dT _ => exact ⟨a, rfl, h⟩
  | ins _ _ _ => exact ⟨a, rfl, h⟩
/-! ### expressions as statements; if -/
def sEx (g : Ox) : Sx := fun E K st => g E st fun _ st' => K.nx st'
def sIf (t : Tx) (f g : Sx) : Sx := fun E K st => t E st fun b st' => if b = true then f E K st' else g E K st'
theorem pxs_if (h : PXT X a tt) (h1 : PXB X sts sf) (h2 : PXB X rest sg) : PXS X (.If a sts rest pos) (sIf tt sf sg) := fun c l => psOf (ps_if (h c l) (h1 c l) (h2 c l)) fun D σ H ⟨W, st, H1, K, hH, P, ek, q⟩ =>
  ⟨W, st, H1, _, hH, P, q, fun b st' W' H2 q0 s P' => by
    cases b with
    | true => exact iteT ⟨W', st', H2, K, rfl, P', ek.aft (P.aft s), q0⟩
    | false => exact iteF ⟨W', st', H2, K, rfl, P', ek.aft (P.aft s), q0⟩⟩
/-! ### name = value -/
def sSet (i : Nat) (g : Ox) : Sx := fun E K st => g E st fun o st' => K.nx { st' with ρ := st'.ρ.set i (.d o.toD) }
def sSetO (i : Nat) (g : Ox) : Sx := fun E K st => g E st fun o st' => K.nx { st' with ρ := st'.ρ.set i o }
theorem OV.set {c : C0} {W : Wd} {st : Ps} {σ : L2.St} {H : Hp} {v : V} {o : O} (P : Pre c W st σ H) (i : Nat) (h : OV c W st σ H v o) : Pre c W { st with ρ := st.ρ.set i o } (σ.set i (some v)) H := by
  cases o with
  | un => exact h.elim
  | d x => exact P.set i h
  | lst _ => obtain ⟨a, rfl, h2, h3, h4, h5, h6, h7⟩ := h; exact P.setO i h2 h3 h4 h5 h6 h7
  | dK _ => obtain ⟨a, rfl, h2, h3, h4, h5, h6, h7⟩ := h; exact P.setO i h2 h3 h4 h5 h6 h7
  | dT _ => obtain ⟨a, rfl, h2, h3, h4, h5, h6, h7⟩ := h; exact P.setO i h2 h3 h4 h5 h6 h7
  | ins _ _ _ => obtain ⟨a, rfl, h2, h3, h4, h5, h6, h7⟩ := h; exact P.setO i h2 h3 h4 h5 h6 h7
theorem pxs_set {i : Nat} (h : ∀ {t : TE}, PE X e t → PS X s (tAsg t (gName i))) (hg : PO X e g) : PXS X s (sSet i g) := fun c l => psOf (h (hg c l)) fun D σ H ⟨W, st, H1, K, hH, P, ek, q⟩ =>
  ⟨W, st, H1, _, hH, P, q, fun o st' v W' H2 q0 s P' ov => by
    obtain ⟨W3, s3, P3, r, eL⟩ := OV.plain P' ov
    rw [← eL]
    exact ek.1 _ _ _ _ q0 (P3.set i r) (P.aft (s.trans s3))⟩
theorem pxs_setO {i : Nat} (h : ∀ {t : TE}, PE X e t → PS X s (tAsg t (gName i))) (hg : PO X e g) : PXS X s (sSetO i g) := fun c l => psOf (h (hg c l)) fun D σ H ⟨W, st, H1, K, hH, P, ek, q⟩ =>
  ⟨W, st, H1, _, hH, P, q, fun o st' v W' H2 q0 s P' ov => ek.1 _ _ _ _ q0 (OV.set P' i ov) (P.aft s)⟩
/-! ### several values, each for a slot -/
abbrev AOx := EK → Ps → (List O → Ps → Prop) → Prop
inductive OVs (c : C0) (W : Wd) (st : Ps) (σ : L2.St) (H : Hp) : List V → List O → Prop
  | nil : OVs c W st σ H [] []
  | cons {v : V} {o : O} {vs : List V} {os : List O} : OV c W st σ H v o → (o.owned = true → ∀ (i : Nat) (u : V) (o' : O), vs[i]? = some u → os[i]? = some o' → o'.owned = true → u ≠ v) → OVs c W st σ H vs os → OVs c W st σ H (v :: vs) (o :: os)
def tAO (c : C0) (f : AOx) : TA := fun σ H Q => ∃ W st H1 Q0, H = lockH W.L H1 ∧ Pre c W st σ H1 ∧ f c.E st Q0 ∧
  ∀ os st' vs W' H2, Q0 os st' → Step c.rw W H1 W' H2 → Pre c W' st' σ H2 → OVs c W' st' σ H2 vs os → Q vs (lockH W'.L H2)
def PAO (X : Cx) (es : List Expr) (f : AOx) : Prop := ∀ c, Lk X c → PA X es (tAO c f)
def oNil : AOx := fun _ st Q => Q [] st
def oCons (f : Ox) (g : AOx) : AOx := fun E st Q => f E st fun o st1 => g E st1 fun os st2 => Q (o :: os) st2
def C0.rs (c : C0) (a : Addr) : C0 := { c with R := fun b => c.R b ∨ b = a }
theorem Pre.res {c : C0} {W : Wd} {st : Ps} {σ : L2.St} {H : Hp} (P : Pre c W st σ H) {a : Addr} (h : ¬ W.F a ∧ ¬ W.own a ∧ (∃ o, H a = some o) ∧ ∀ i, ¬ slotOwns st.ρ σ i a) : Pre (c.rs a) W st σ H :=
  ⟨P.hrw, P.step, P.new, P.base, P.slen, P.slot, P.sown, P.sapart, fun b hb => hb.elim (P.rsv b) (fun e => by rw [e]; exact h), P.hvw, P.own0⟩
theorem Pre.unres {c : C0} {W : Wd} {st : Ps} {σ : L2.St} {H : Hp} {a : Addr} (P : Pre (c.rs a) W st σ H) : Pre c W st σ H := ⟨P.hrw, P.step, P.new, P.base, P.slen, P.slot, P.sown, P.sapart, fun b hb => P.rsv b (.inl hb), P.hvw, P.own0⟩
theorem Lk.res {c : C0} {a : Addr} (l : Lk X c) : Lk X (c.rs a) := Takes.imp l fun cls d σ H ⟨W, st, H1, C, fs, h1, P, h⟩ => ⟨W, st, H1, C, fs, h1, P.unres, h⟩
theorem OV.own {c : C0} {W : Wd} {st : Ps} {σ : L2.St} {H : Hp} {v : V} {o : O} (ho : o.owned = true) (h : OV c W st σ H v o) : ∃ a, v = .ref a ∧ OwnAt W H a o ∧ ¬ W.F a ∧ ¬ W.own a ∧ c.H0 a = none ∧ (∀ i, ¬ slotOwns st.ρ σ i a) ∧ ¬ c.R a := by
  cases o with
  | un => cases ho
  | d x => cases ho
  | lst _ => exact h
  | dK _ => exact h
  | dT _ => exact h
  | ins _ _ _ => exact h
theorem OVs.unres {c : C0} {W : Wd} {st : Ps} {σ : L2.St} {H : Hp} {a : Addr} : ∀ {vs : List V} {os : List O}, OVs (c.rs a) W st σ H vs os → OVs c W st σ H vs os ∧ ∀ (i : Nat) (u : V) (o' : O), vs[i]? = some u → os[i]? = some o' → o'.owned = true → u ≠ .ref a
  | _, _, .nil => ⟨.nil, fun i u o' h => by simp at h⟩
  | _, _, .cons (v := v) (o := o) h1 h2 h3 => by
    obtain ⟨q1, q2⟩ := h3.unres
    have low : OV c W st σ H v o ∧ (o.owned = true → v ≠ .ref a) := by
      cases ho : o.owned with
      | true =>
        obtain ⟨b, rfl, k1, k2, k3, k4, k5, k6⟩ := OV.own ho h1
        exact ⟨OV.of_own ho ⟨k1, k2, k3, k4, k5, fun z => k6 (.inl z)⟩, fun _ z => k6 (.inr (by cases z; rfl))⟩
      | false =>
        refine ⟨?_, fun z => by cases z⟩
        cases o with
        | un => exact h1
        | d x => exact h1
        | lst _ => cases ho
        | dK _ => cases ho
        | dT _ => cases ho
        | ins _ _ _ => cases ho
    refine ⟨.cons low.1 h2 q1, fun i u o' e1 e2 e3 => ?_⟩
    cases i with
    | zero =>
      cases e1
      cases e2
      exact low.2 e3
    | succ i => exact q2 i u o' (by simpa using e1) (by simpa using e2) e3
theorem pao_nil : PAO X [] oNil := fun c l => paOf pa_nil fun σ H Q ⟨W, st, H1, Q0, hH, P, q, k⟩ => by
  subst hH
  exact k _ _ _ _ _ q (.refl _ _ _) P .nil
theorem PA.orr {es : List Expr} {α : Type} {t : α → TA} (h : ∀ x, PA X es (t x)) : PA X es (fun σ H Q => ∃ x, t x σ H Q) := ⟨fun pos pins s σ H Q I ⟨x, q⟩ => (h x).run pos pins s σ H Q I q⟩
theorem pao_cons {ga : AOx} (h : PO X e g) (hr : PAO X es ga) (hs : starEach (e :: es) X.env = (false, eval e X.env) :: starEach es X.env := by rfl) : PAO X (e :: es) (oCons g ga) := fun c l => by
  refine paOf (pa_cons (h c l) (PA.orr (t := fun x : Option Addr => match x with | none => tAO c ga | some a => tAO (c.rs a) ga) fun x => ?_) hs) ?_
  · cases x with
    | none => exact hr c l
    | some a => exact hr _ (Lk.res l)
  · rintro σ H Q ⟨W, st, H1, Q0, hH, P, q, k⟩
    refine ⟨W, st, H1, _, hH, P, q, fun o st1 v W1 H2 q1 s1 P1 ov => ?_⟩
    cases ho : o.owned with
    | true =>
      obtain ⟨a, rfl, k1, k2, k3, k4, k5, k6⟩ := OV.own ho ov
      obtain ⟨u, hu, _⟩ := k1.there
      refine ⟨some a, W1, st1, H2, _, rfl, P1.res ⟨k2, k3, ⟨u, hu⟩, k5⟩, q1, fun os st2 vs W2 H3 q2 s2 P2 ovs => ?_⟩
      obtain ⟨z1, z2⟩ := ovs.unres
      obtain ⟨y1, y2, y3, y4⟩ := P2.rsv a (.inr rfl)
      have e : H3 a = H2 a := by rw [hu]; exact s2.keep a u hu fun _ => k3
      exact k _ _ _ _ _ q2 (s1.trans s2) P2.unres (.cons (OV.of_own ho ⟨k1.fut (P1.fut s2) e, y1, y2, k4, y4, k6⟩) (fun _ => z2) z1)
    | false =>
      refine ⟨none, W1, st1, H2, _, rfl, P1, q1, fun os st2 vs W2 H3 q2 s2 P2 ovs => ?_⟩
      refine k _ _ _ _ _ q2 (s1.trans s2) P2 (.cons ?_ (fun z => by rw [ho] at z; cases z) ovs)
      cases o with
      | un => exact ov
      | d x => exact Rep.fut (P1.fut s2) ov
      | lst _ => cases ho
      | dK _ => cases ho
      | dT _ => cases ho
      | ins _ _ _ => cases ho
theorem OV.later {c : C0} {W : Wd} {st : Ps} {σ : L2.St} {H : Hp} {v u : V} {o o' : O} (i : Nat) (h : OV c W st σ H v o) (n : o.owned = true → o'.owned = true → u ≠ v) : OV c W { st with ρ := st.ρ.set i o' } (σ.set i (some u)) H v o := by
  cases ho : o.owned with
  | true =>
    obtain ⟨a, rfl, k1, k2, k3, k4, k5, k6⟩ := OV.own ho h
    refine OV.of_own ho ⟨k1, k2, k3, k4, fun j z => ?_, k6⟩
    rcases owns_set z with ⟨_, z, y⟩ | ⟨_, z⟩
    · exact n ho z (Option.some.inj y)
    · exact k5 j z
  | false =>
    cases o with
    | un => exact h
    | d x => exact h
    | lst _ => cases ho
    | dK _ => cases ho
    | dT _ => cases ho
    | ins _ _ _ => cases ho
def sPar2 (i j : Nat) (g : AOx) : Sx := fun E K st => g E st fun os st1 => match os with
  | [o1, o2] => K.nx { st1 with ρ := (st1.ρ.set i o1).set j o2 }
  | _ => False
theorem pxs_par2 {i j : Nat} {ga : AOx} (h : ∀ {t : TA}, PA X es t → PS X s (tPar i j t)) (ha : PAO X es ga) : PXS X s (sPar2 i j ga) := fun c l => psOf (h (ha c l)) fun D σ H ⟨W, st, H1, K, hH, P, ek, q⟩ =>
  ⟨W, st, H1, _, hH, P, q, fun os st1 vs W1 H2 q1 s1 P1 ovs => by
    split at q1
    · cases ovs with
      | cons h1 n1 t =>
        cases t with
        | cons h2 n2 t =>
          cases t
          rename_i v1 v2
          exact ⟨v1, v2, rfl, ek.1 _ _ _ _ q1 (OV.set (OV.set P1 i h1) j (OV.later i h2 fun a b => (n1 b 0 _ _ rfl rfl a).symm)) (P.aft s1)⟩
    · exact q1.elim⟩
def sPar3 (i j m : Nat) (g : AOx) : Sx := fun E K st => g E st fun os st1 => match os with
  | [o1, o2, o3] => K.nx { st1 with ρ := ((st1.ρ.set i o1).set j o2).set m o3 }
  | _ => False
theorem pxs_par3 {i j m : Nat} {ga : AOx} (h : ∀ {t : TA}, PA X es t → PS X s (tPar3 i j m t)) (ha : PAO X es ga) : PXS X s (sPar3 i j m ga) := fun c l => psOf (h (ha c l)) fun D σ H ⟨W, st, H1, K, hH, P, ek, q⟩ =>
  ⟨W, st, H1, _, hH, P, q, fun os st1 vs W1 H2 q1 s1 P1 ovs => by
    split at q1
    · cases ovs with
      | cons h1 n1 t =>
        cases t with
        | cons h2 n2 t =>
          cases t with
          | cons h3 n3 t =>
            cases t
            rename_i v1 v2 v3
            refine ⟨v1, v2, v3, rfl, ek.1 _ _ _ _ q1 (OV.set (OV.set (OV.set P1 i h1) j (OV.later i h2 fun a b => (n1 b 0 _ _ rfl rfl a).symm)) m ?_) (P.aft s1)⟩
            exact OV.later j (OV.later i h3 fun a b => (n1 b 1 _ _ rfl rfl a).symm) fun a b => (n2 b 0 _ _ rfl rfl a).symm
    · exact q1.elim⟩
end
end Q
namespace Q
open PySem L2 PySem.Spec PyProof.Rows
/-! ### what a def is worth, over plain data -/
abbrev EF := Addr → List (Str × D) → List Cell → Prop
abbrev MF := List D → EF → List Cell → (O → List Cell → Prop) → Prop
def RO (W : Wd) (H0 H : Hp) (v : V) (o : O) : Prop :=
  match o with
  | .un => False
  | .d x => Rp W H v x
  | o => ∃ a, v = .ref a ∧ OwnAt W H a o ∧ ¬ W.F a ∧ ¬ W.own a ∧ H0 a = none
def spM (rw : Bool) (np : Nat) (m : MF) : Sp := fun vs H Q E => ∃ W S H1 ds Q0 E0, H = lockH W.L H1 ∧ Base rw W S H1 ∧ RepL W.φ W.F H1 vs ds ∧ ds.length = np ∧ m ds E0 S Q0 ∧
  (∀ o S' v W' H2, Q0 o S' → Step rw W H1 W' H2 → (∀ a, W'.F a → W.F a ∨ H1 a = none) → Base rw W' S' H2 → W'.L = W.L → RO W' H1 H2 v o → Q v (lockH W.L H2)) ∧
  (∀ C fs S' od W' H2, E0 C fs S' → Step rw W H1 W' H2 → (∀ a, W'.F a → W.F a ∨ H1 a = none) → Base rw W' S' H2 → W'.L = W.L → ExcAt W' H2 od fs → E (.ref C) od (lockH W.L H2))
def st0 (rw : Bool) (n : Nat) (ds : List D) (S : List Cell) : Ps := ⟨ds.map O.d ++ List.replicate (n - ds.length) .un, S, rw, false⟩
def mk (rw : Bool) (n : Nat) (b : Sx) : MF := fun ds E0 S Q0 => b (fun C fs st => E0 C fs st.S) ⟨fun st => Q0 (.d .non) st.S, fun o st => Q0 o st.S, fun _ => False, fun _ => False⟩ (st0 rw n ds S)
theorem RepL.get {φ F H} : ∀ {vs : List V} {ds : List D} {i : Nat} {d : D}, RepL φ F H vs ds → ds[i]? = some d → ∃ v, vs[i]? = some v ∧ Rep φ F H v d
  | _, _, i, d, .nil, e => by simp at e
  | _, _, 0, d, .cons h _, e => by
    cases e
    exact ⟨_, rfl, h⟩
  | _, _, i + 1, d, .cons _ t, e => by
    obtain ⟨v, h1, h2⟩ := t.get (i := i) (by simpa using e)
    exact ⟨v, by simpa using h1, h2⟩
theorem RO.of_OV {c : C0} {W : Wd} {st : Ps} {σ : L2.St} {H : Hp} {v : V} {o : O} (h : OV c W st σ H v o) : RO W c.H0 H v o := by
  cases o with
  | un => exact h
  | d x => exact h
  | lst _ => obtain ⟨a, h1, h2, h3, h4, h5, _⟩ := h; exact ⟨a, h1, h2, h3, h4, h5⟩
  | dK _ => obtain ⟨a, h1, h2, h3, h4, h5, _⟩ := h; exact ⟨a, h1, h2, h3, h4, h5⟩
  | dT _ => obtain ⟨a, h1, h2, h3, h4, h5, _⟩ := h; exact ⟨a, h1, h2, h3, h4, h5⟩
  | ins _ _ _ => obtain ⟨a, h1, h2, h3, h4, h5, _⟩ := h; exact ⟨a, h1, h2, h3, h4, h5⟩
theorem pre0 {W : Wd} {S : List Cell} {H : Hp} {ds : List D} {vs : List V} {rw : Bool} {E : EK} {N : List Str} (B : Base rw W S H) (r : RepL W.φ W.F H vs ds) (hl : ds.length ≤ N.length) : Pre ⟨W, H, rw, E, fun _ => False⟩ W (st0 rw N.length ds S) (L2.start N vs) H := by
  have hv := r.length
  have no : ∀ i a, ¬ slotOwns (st0 rw N.length ds S).ρ (L2.start N vs) i a := fun i a ⟨o, h1, h2, _⟩ => by
    have h1' : (ds.map O.d ++ List.replicate (N.length - ds.length) O.un)[i]? = some o := h1
    rw [List.getElem?_append] at h1'
    split at h1'
    · rw [List.getElem?_map] at h1'
      cases e : ds[i]? with
      | none => rw [e] at h1'; cases h1'
      | some d => rw [e] at h1'; cases h1'; cases h2
    · have := List.mem_of_getElem? h1'
      rw [(List.mem_replicate.mp this).2] at h2
      cases h2
  refine ⟨rfl, .refl _ _ _, fun a h => .inl h, B, ?_, fun i o h => ?_, fun i a z => absurd z (no i a), fun i j a z => absurd z (no i a), fun a h => h.elim, fun h => (by cases h), fun a h => B.own_there h⟩
  · show (ds.map O.d ++ List.replicate (N.length - ds.length) O.un).length = (vs.map some ++ List.replicate (N.length - vs.length) none).length
    simp only [List.length_append, List.length_map, List.length_replicate]
    omega
  · have h' : (ds.map O.d ++ List.replicate (N.length - ds.length) O.un)[i]? = some o := h
    rw [List.getElem?_append] at h'
    split at h'
    · rename_i hi
      rw [List.length_map] at hi
      rw [List.getElem?_map] at h'
      cases e : ds[i]? with
      | none => rw [e] at h'; cases h'
      | some d =>
        rw [e] at h'
        cases h'
        obtain ⟨v, e1, e2⟩ := r.get e
        refine ⟨v, ?_, e2⟩
        show (vs.map some ++ List.replicate (N.length - vs.length) none)[i]?.join = some v
        rw [List.getElem?_append_left (by rw [List.length_map]; omega), List.getElem?_map, e1]
        rfl
    · have := List.mem_of_getElem? h'
      rw [(List.mem_replicate.mp this).2]
      exact trivial
/-! ### behind a body the locks are taken off -/
inductive Unl (X : Cx) : Hp → Hp → Prop
  | refl (H : Hp) : Unl X H H
  | step {H H' : Hp} {d : Addr} {od : Obj} {u : HO} : H d = some (.frz od u) → (∀ o' u', X.H_0 d ≠ some (.frz o' u')) → Unl X (upd H d u) H' → Unl X H H'
theorem Unl.inv {X : Cx} {pins : List (Addr × Obj)} {σ : L2.St} {s : Shared} {H H' : Hp} (h : Unl X H H') : L2.Inv X pins σ H s → L2.Inv X pins σ H' s := by
  induction h with
  | refl H => exact fun I => I
  | step a b _ ih => exact fun I => ih (I.unlock a b)
theorem Unl.none {X : Cx} {H H' : Hp} (h : Unl X H H') {a : Addr} : H a = none → H' a = none := by
  induction h with
  | refl H => exact fun e => e
  | step x b _ ih => exact fun e => ih (by rw [upd_ne (fun z => by rw [z, x] at e; cases e)]; exact e)
def enUnl (X : Cx) (D : Ends) : Ends := ⟨fun σ H => ∃ H', Unl X H H' ∧ D.nx σ H', fun v H => ∃ H', Unl X H H' ∧ D.rt v H', fun σ H => ∃ H', Unl X H H' ∧ D.bk σ H', fun σ H => ∃ H', Unl X H H' ∧ D.ct σ H'⟩
theorem pssUnl {X : Cx} {sts : List Stmt} {t : TS} (h : PSs X sts t) : PSs X sts (fun D => t (enUnl X D)) := ⟨fun pins s σ H D I q => by
  refine thn (h.run pins s σ H _ I q) fun fl s1 z => ?_
  cases fl with
  | next => obtain ⟨σ1, H1, J, H2, un, q1⟩ := z; exact ⟨σ1, H2, un.inv J, q1⟩
  | brk => obtain ⟨σ1, H1, J, H2, un, q1⟩ := z; exact ⟨σ1, H2, un.inv J, q1⟩
  | cont => obtain ⟨σ1, H1, J, H2, un, q1⟩ := z; exact ⟨σ1, H2, un.inv J, q1⟩
  | ret u => obtain ⟨v, σ1, H1, J, rv, H2, un, q1⟩ := z; exact ⟨v, σ1, H2, un.inv J, rv, q1⟩⟩
theorem takesUnl {X : Cx} {Ew : WX} (tk : Takes X Ew) : Takes X (fun cls d σ H => ∃ H', Unl X H H' ∧ Ew cls d σ H') := fun u s' x => by
  obtain ⟨a, B, sI, pins, σ, H, cls, d, e, I, nb, up, sky, na, os, ag, H', un, q⟩ := x
  exact tk u s' ⟨a, B, sI, pins, σ, H', cls, d, e, un.inv I, nb, up, sky, un.none na, os, ag, q⟩
theorem lookup_nodup {L : List (Addr × Obj)} {d : Addr} (h : d ∉ L.map (·.1)) : L.lookup d = none := by
  induction L with
  | nil => rfl
  | cons p L ih =>
    obtain ⟨a, o⟩ := p
    rw [List.map_cons, List.mem_cons, not_or] at h
    rw [List.lookup_cons]
    have : (d == a) = false := beq_eq_false_iff_ne.mpr h.1
    rw [this]
    exact ih h.2
theorem unl_go {X : Cx} {H : Hp} {L0 : List (Addr × Obj)} : ∀ (more : List (Addr × Obj)), ((more ++ L0).map (·.1)).Nodup → (∀ p ∈ more, (∃ u, H p.1 = some u) ∧ ∀ o' u', X.H_0 p.1 ≠ some (.frz o' u')) → Unl X (lockH (more ++ L0) H) (lockH L0 H)
  | [], _, _ => .refl _
  | (d, o) :: more, nd, h => by
    obtain ⟨⟨u, hu⟩, hn⟩ := h (d, o) List.mem_cons_self
    rw [List.cons_append, List.map_cons, List.nodup_cons] at nd
    have hl := lookup_nodup nd.1
    have e1 : ((d, o) :: (more ++ L0)).lookup d = some o := by rw [List.lookup_cons]; simp
    refine .step (d := d) (od := o) (u := u) ?_ hn ?_
    · show lockH ((d, o) :: (more ++ L0)) H d = _
      simp only [lockH, e1, hu]
      rfl
    · have e2 : upd (lockH ((d, o) :: more ++ L0) H) d u = lockH (more ++ L0) H := by
        funext b
        by_cases e : b = d
        · subst e
          rw [upd_same, lock_at hl, hu]
        · rw [upd_ne e]
          have : ((d, o) :: (more ++ L0)).lookup b = (more ++ L0).lookup b := by
            rw [List.lookup_cons]
            have : (b == d) = false := beq_eq_false_iff_ne.mpr e
            rw [this]
          show lockH ((d, o) :: (more ++ L0)) H b = _
          simp only [lockH, this]
      rw [e2]
      exact unl_go more nd.2 fun p hp => h p (List.mem_cons_of_mem _ hp)
theorem lookup_of_mem {L : List (Addr × Obj)} {p : Addr × Obj} (nd : (L.map (·.1)).Nodup) (h : p ∈ L) : L.lookup p.1 = some p.2 := by
  induction L with
  | nil => cases h
  | cons q L ih =>
    obtain ⟨a, o⟩ := q
    rw [List.map_cons, List.nodup_cons] at nd
    rw [List.lookup_cons]
    rcases List.mem_cons.mp h with e | h
    · subst e
      simp
    · have : p.1 ≠ a := fun z => nd.1 (by rw [← z]; exact List.mem_map.mpr ⟨p, h, rfl⟩)
      rw [beq_eq_false_iff_ne.mpr this]
      exact ih nd.2 h
/-- the world with the locks of the beginning -/
def Wd.relock (W' W : Wd) : Wd := { W' with L := W.L }
theorem Pre.exit {c : C0} {W : Wd} {st : Ps} {σ : L2.St} {H : Hp} {S0 : List Cell} {X : Cx} (P : Pre c W st σ H) (B : Base c.rw c.W0 S0 c.H0) (hX : ∀ d o' u', X.H_0 d = some (.frz o' u') → lockH c.W0.L c.H0 d = some (.frz o' u')) :
    Unl X (lockH W.L H) (lockH c.W0.L H) ∧ Step c.rw c.W0 c.H0 (W.relock c.W0) H ∧ Base c.rw (W.relock c.W0) st.S H := by
  obtain ⟨more, eL⟩ := P.step.locks
  have nd := P.base.lN
  refine ⟨?_, ⟨P.step.cells, P.step.sub, P.step.keep, P.step.tups, P.step.dom, P.step.ownNew, ⟨[], rfl⟩, P.step.ownOld⟩, ⟨P.base.fdom, P.base.len, P.base.cell, P.base.apart, P.base.ownF, B.lN, fun a o h => ?_⟩⟩
  · rw [eL] at nd ⊢
    refine unl_go more nd fun p hp => ?_
    have hm : p ∈ W.L := by rw [eL]; exact List.mem_append_left _ hp
    obtain ⟨h1, u, h2, h3⟩ := P.base.lF p.1 p.2 (lookup_of_mem (by rw [eL]; exact nd) hm)
    refine ⟨⟨u, h2⟩, fun o' u' e => ?_⟩
    rw [List.map_append] at nd
    have hl : c.W0.L.lookup p.1 = none := lookup_nodup fun z => (List.nodup_append.mp nd).2.2 _ (List.mem_map_of_mem hp) _ z rfl
    have e := hX _ _ _ e
    rw [lock_at hl] at e
    have key : H p.1 = some (.frz o' u') ∨ c.H0 p.1 = none := by
      rcases h1 with h1 | ⟨hr, h1⟩
      · rcases P.new p.1 h1 with f | n
        · exact .inl (P.step.keep p.1 _ e (fun hr ho => B.ownF hr p.1 ho f))
        · exact .inr n
      · exact .inl (P.step.keep p.1 _ e (fun z => by rw [hr] at z; cases z))
    rcases key with this | n
    · rw [h2] at this
      cases this
      cases h3
    · rw [n] at e
      cases e
  · obtain ⟨h1, u, h2, h3⟩ := B.lF a o h
    rcases h1 with h1 | ⟨hr, h1⟩
    · exact ⟨.inl (P.step.sub a h1), u, P.step.keep a u h2 (fun hr ho => B.ownF hr a ho h1), h3⟩
    · exact ⟨(P.step.ownOld a h1).elim (fun y => .inr ⟨hr, y⟩) (fun y => by rw [hr] at y; cases y), u, P.step.keep a u h2 (fun z => by rw [hr] at z; cases z), h3⟩
section
variable {P : Program} {w : World} {K : PySem.W.Frag} {mg : Str → Option Value} {base : Heap}
/-- a def's body, as a function of plain data -/
theorem fnM {x qual : Str} {st : Stmt} {f : Addr} {fd : FuncData} {N ps : List Str} {k : Nat} {b : Sx} {rw : Bool} (F : Fun K x qual st f fd) (S : FnScope N ps (defScope st)) (hN : ps.length ≤ N.length)
    (hb : ∀ (cdv : Value) (A : Around) (outer : List Env) (s : Shared) (H : Hp) (E : XK), Room k (A.deeper (envOfC qual (defScope st) s.heap.objs.size f cdv)) → PXB (cxOf (L2.CX P w) P w K mg base N qual (defScope st) f cdv A outer s H E) (defBody st) b) :
    FnOk P w K mg base (L2.CX P w) (k + 1) f fd ps (spM rw ps.length (mk rw N.length b)) := by
  refine F.okX S (fun vs H Q E h => ?_) fun cdv A outer s H vs Q E hr h => ?_
  · obtain ⟨W, S', H1, ds, Q0, E0, _, _, r, hl, _⟩ := h
    rw [r.length]
    exact hl
  · obtain ⟨W, S', H1, ds, Q0, E0, rfl, B, r, hl, q, kr, ke⟩ := h
    have hb' := hb cdv A outer s (lockH W.L H1) E hr
    refine ⟨_, pssUnl (hb' ⟨W, H1, rw, fun C fs st => E0 C fs st.S, fun _ => False⟩ ?_), ?_⟩
    · refine Takes.imp (takesUnl (takes_of rfl rfl rfl rfl)) ?_
      rintro cls od σ H ⟨W', st', H2, C, fs, rfl, P', rfl, ex, e0⟩
      obtain ⟨un, s1, B1⟩ := P'.exit (X := cxOf (L2.CX P w) P w K mg base N qual (defScope st) f cdv A outer s (lockH W.L H1) E) B (fun _ _ _ z => z)
      exact ⟨_, un, ke C fs st'.S od _ H2 e0 s1 P'.new B1 rfl ex⟩
    · refine ⟨W, st0 rw N.length ds S', H1, ⟨fun st => Q0 (.d .non) st.S, fun o st => Q0 o st.S, fun _ => False, fun _ => False⟩, rfl, pre0 B r (by omega), ⟨fun st' W' σ' H2 q' P' _ => ?_, fun o st' W' σ' H2 v q' P' _ ov => ?_, fun st' W' σ' H2 q' P' _ => q'.elim, fun st' W' σ' H2 q' P' _ => q'.elim⟩, q⟩
      · obtain ⟨un, s1, B1⟩ := P'.exit (X := cxOf (L2.CX P w) P w K mg base N qual (defScope st) f cdv A outer s (lockH W.L H1) E) B (fun _ _ _ z => z)
        exact ⟨_, un, kr _ _ _ _ H2 q' s1 P'.new B1 rfl (.non : Rp W' H2 .non .non)⟩
      · obtain ⟨un, s1, B1⟩ := P'.exit (X := cxOf (L2.CX P w) P w K mg base N qual (defScope st) f cdv A outer s (lockH W.L H1) E) B (fun _ _ _ z => z)
        exact ⟨_, un, kr _ _ _ _ H2 q' s1 P'.new B1 rfl (RO.of_OV ov)⟩
end
/-! ### calls -/
theorem Step.own0 {rw : Bool} {W W' : Wd} {H H' : Hp} (s : Step rw W H W' H') (h : rw = false) : ∀ a, W'.own a → W.own a := fun a ho => (s.ownNew a ho).elim id fun z => by rw [h] at z; cases z.1
theorem Step.up {rw : Bool} {W W' : Wd} {H H' : Hp} (s : Step false W H W' H') : Step rw W H W' H' := ⟨s.cells, s.sub, fun a o e _ => s.keep a o e (fun z => by cases z), s.tups, s.dom, fun a h => (s.ownNew a h).elim .inl fun z => (by cases z.1), s.locks, fun a h => (s.ownOld a h).elim .inl fun z => by cases z⟩
theorem OV.of_RO {c : C0} {W W' : Wd} {st : Ps} {σ : L2.St} {H H' : Hp} {v : V} {o : O} {S' : List Cell} (P : Pre c W st σ H) (h : RO W' H H' v o) : OV c W' { st with S := S' } σ H' v o := by
  have go : ∀ {a : Addr}, H a = none → c.H0 a = none ∧ (∀ i, ¬ slotOwns st.ρ σ i a) ∧ ¬ c.R a := fun {a} e => by
    refine ⟨Classical.byContradiction fun y => P.step.dom a y e, fun i z => ?_, fun z => ?_⟩
    · obtain ⟨u, h, _⟩ := P.sthere z
      rw [e] at h
      cases h
    · obtain ⟨_, _, ⟨u, h⟩, _⟩ := P.rsv a z
      rw [e] at h
      cases h
  cases o with
  | un => exact h
  | d x => exact h
  | lst _ => obtain ⟨a, h1, h2, h3, h4, h5⟩ := h; exact ⟨a, h1, h2, h3, h4, go h5⟩
  | dK _ => obtain ⟨a, h1, h2, h3, h4, h5⟩ := h; exact ⟨a, h1, h2, h3, h4, go h5⟩
  | dT _ => obtain ⟨a, h1, h2, h3, h4, h5⟩ := h; exact ⟨a, h1, h2, h3, h4, go h5⟩
  | ins _ _ _ => obtain ⟨a, h1, h2, h3, h4, h5⟩ := h; exact ⟨a, h1, h2, h3, h4, go h5⟩
/-- a call that may change the store: the arguments become plain -/
def cE (rw : Bool) (np : Nat) (m : MF) (E : EK) (st : Ps) (rs : List R) (Q : O → Ps → Prop) : Prop := (rw = true → st.rw = true) ∧ opt (frzs st rs) fun q => q.1.length = np ∧ m q.1 (fun C fs S' => E C fs { q.2 with S := S' }) q.2.S fun o S' => Q o { q.2 with S := S' }
theorem cE_ok {c : C0} {W : Wd} {st : Ps} {σ : L2.St} {H : Hp} {rw : Bool} {np : Nat} {m : MF} {rs : List R} {vs : List V} {Q : VK} {Q1 : O → Ps → Prop} (P : Pre c W st σ H) (r : RVs W σ H vs rs) (h : cE rw np m c.E st rs Q1)
    (k : ∀ o st' v W' H2, Q1 o st' → Step c.rw W H W' H2 → Pre c W' st' σ H2 → OV c W' st' σ H2 v o → Q v (lockH W'.L H2)) : spM rw np m vs (lockH W.L H) Q (WE (wish c) σ) := by
  obtain ⟨hrw, h⟩ := h
  obtain ⟨q, e, hn, h⟩ := opt_ex h
  obtain ⟨W2, s2, P2, r2, eL⟩ := frzs_ok P e r
  have up : ∀ {W' H'}, Step rw W2 H W' H' → Step c.rw W2 H W' H' := fun {W' H'} s => by
    cases rw with
    | false => exact s.up
    | true =>
      have e : c.rw = true := P.hrw.symm.trans (hrw rfl)
      rw [e]
      exact s
  refine ⟨W2, q.2.S, H, q.1, _, _, by rw [eL], P2.base.to (fun z => P.hrw.symm.trans (hrw z)), r2, hn, h, fun o S' v W' H2 q0 s n B el ro => ?_, fun C fs S' od W' H2 q0 s n B el ex => ?_⟩
  · rw [← el]
    exact k _ _ _ _ _ q0 (s2.trans (up s)) (P2.call (up s) n (P2.base.back B el (up s) (fun z => s.own0 z) n)) (OV.of_RO P2 ro)
  · exact ⟨W', _, H2, C, fs, by rw [el], P2.call (up s) n (P2.base.back B el (up s) (fun z => s.own0 z) n), rfl, ex, q0⟩
/-- a call that changes nothing: a slot's own thing stays its own where the answer is a plain value -/
def isSc : O → Bool
  | .d .non => true
  | .d (.bl _) => true
  | .d (.int _) => true
  | .d (.str _) => true
  | .d (.byt _) => true
  | _ => false
def cP (np : Nat) (m : MF) (E : EK) (st : Ps) (rs : List R) (Q : O → Ps → Prop) : Prop := opt (looks st rs) fun ds => opt (frzs st rs) fun q => ds.length = np ∧ m ds (fun C fs S' => E C fs { q.2 with S := S' }) st.S fun o S' => if isSc o = true then Q o st else Q o { q.2 with S := S' }
theorem frz_look {st : Ps} {r : R} {q : D × Ps} {d : D} (e : frz st r = some q) (h : look st r = some d) : q.1 = d ∧ q.2.S = st.S := by
  cases r with
  | v x =>
    cases e
    cases h
    exact ⟨rfl, rfl⟩
  | ref i =>
    unfold frz at e
    unfold look at h
    dsimp only at e h
    cases z : st.ρ[i]? with
    | none => rw [z] at e; cases e
    | some o =>
      rw [z] at e h
      cases o <;> first | (cases e; done) | (cases e; cases h; exact ⟨rfl, rfl⟩)
theorem look_frz {st : Ps} {r : R} {q : D × Ps} (e : frz st r = some q) : ∀ r' d, look st r' = some d → look q.2 r' = some d := by
  intro r' d h
  cases r with
  | v x => cases e; exact h
  | ref i =>
    unfold frz at e
    dsimp only at e
    cases z : st.ρ[i]? with
    | none => rw [z] at e; cases e
    | some o =>
      rw [z] at e
      have go : o.owned = true → q = (o.toD, { st with ρ := st.ρ.set i (.d o.toD) }) → look q.2 r' = some d := fun ho eq => by
        subst eq
        cases r' with
        | v y => exact h
        | ref j =>
          unfold look at h ⊢
          dsimp only at h ⊢
          by_cases ji : j = i
          · subst ji
            rw [z] at h
            rw [List.getElem?_set, if_pos rfl, if_pos (List.getElem?_eq_some_iff.mp z).1]
            cases o <;> first | (cases ho; done) | exact h
          · rw [List.getElem?_set_ne (Ne.symm ji)]
            exact h
      cases o with
      | un => cases e
      | d x => cases e; exact h
      | lst _ => cases e; exact go rfl rfl
      | dK _ => cases e; exact go rfl rfl
      | dT _ => cases e; exact go rfl rfl
      | ins _ _ _ => cases e; exact go rfl rfl
theorem frzs_looks : ∀ {rs : List R} {st : Ps} {q : List D × Ps} {ds : List D}, frzs st rs = some q → looks st rs = some ds → q.1 = ds ∧ q.2.S = st.S
  | [], st, q, ds, e, h => by cases e; cases h; exact ⟨rfl, rfl⟩
  | r :: rs, st, q, ds, e, h => by
    unfold frzs at e
    unfold looks at h
    cases q1 : frz st r with
    | none => rw [q1] at e; cases e
    | some y =>
      rw [q1] at e
      dsimp only at e
      cases q2 : frzs y.2 rs with
      | none => rw [q2] at e; cases e
      | some z =>
        rw [q2] at e
        cases e
        cases l1 : look st r with
        | none => rw [l1] at h; cases h
        | some d =>
          cases l2 : looks st rs with
          | none => rw [l1, l2] at h; cases h
          | some ds' =>
            rw [l1, l2] at h
            cases h
            obtain ⟨a1, a2⟩ := frz_look q1 l1
            have l3 : looks y.2 rs = some ds' := by
              clear q2
              induction rs generalizing ds' with
              | nil => exact l2
              | cons r2 rs ih =>
                unfold looks at l2 ⊢
                cases m1 : look st r2 with
                | none => rw [m1] at l2; cases l2
                | some d2 =>
                  cases m2 : looks st rs with
                  | none => rw [m1, m2] at l2; cases l2
                  | some ds2 =>
                    rw [m1, m2] at l2
                    cases l2
                    rw [look_frz q1 _ _ m1, ih _ m2]
            obtain ⟨b1, b2⟩ := frzs_looks q2 l3
            exact ⟨by rw [a1, b1], by rw [b2, a2]⟩
theorem cP_ok {c : C0} {W : Wd} {st : Ps} {σ : L2.St} {H : Hp} {np : Nat} {m : MF} {rs : List R} {vs : List V} {Q : VK} {Q1 : O → Ps → Prop} (P : Pre c W st σ H) (r : RVs W σ H vs rs) (h : cP np m c.E st rs Q1)
    (k : ∀ o st' v W' H2, Q1 o st' → Step c.rw W H W' H2 → Pre c W' st' σ H2 → OV c W' st' σ H2 v o → Q v (lockH W'.L H2)) : spM false np m vs (lockH W.L H) Q (WE (wish c) σ) := by
  obtain ⟨ds, e1, h⟩ := opt_ex h
  obtain ⟨q, e2, hn, h⟩ := opt_ex h
  obtain ⟨W2, s2, P2, r2, eL⟩ := frzs_ok P e2 r
  obtain ⟨a1, a2⟩ := frzs_looks e2 e1
  rw [a1] at r2
  refine ⟨W2, st.S, H, ds, _, _, by rw [eL], by rw [← a2]; exact P2.base.to (fun z => by cases z), r2, hn, h, fun o S' v W' H2 q0 s n B el ro => ?_, fun C fs S' od W' H2 q0 s n B el ex => ?_⟩
  · dsimp only at q0
    split at q0
    · rename_i hs
      have sf : Step false W H W H2 := ⟨fun _ _ e => e, fun _ h => h, fun a o e _ => s.keep a o e (fun z => by cases z), s.tups, s.dom, fun _ h => .inl h, ⟨[], rfl⟩, fun _ h => .inl h⟩
      have P3 : Pre c W st σ H2 := P.call (S' := st.S) sf.up (fun a h => .inl h) (P.base.later sf)
      rw [eL]
      refine k _ _ v _ _ q0 sf.up P3 ?_
      unfold isSc at hs
      split at hs
      · have ro' : Rp W' H2 v .non := ro
        cases ro'; exact (.non : Rp W H2 .non .non)
      · have ro' : Rp W' H2 v (.bl _) := ro
        cases ro'; exact (.bl _ : Rp W H2 _ (.bl _))
      · have ro' : Rp W' H2 v (.int _) := ro
        cases ro'; exact (.int _ : Rp W H2 _ (.int _))
      · have ro' : Rp W' H2 v (.str _) := ro
        cases ro'; exact (.str _ : Rp W H2 _ (.str _))
      · have ro' : Rp W' H2 v (.byt _) := ro
        cases ro'; exact (.byt _ : Rp W H2 _ (.byt _))
      · cases hs
    · rw [← el]
      exact k _ _ _ _ _ q0 (s2.trans s.up) (P2.call s.up n (P2.base.back B el s.up (fun z => s.own0 z) n)) (OV.of_RO P2 ro)
  · exact ⟨W', _, H2, C, fs, by rw [el], P2.call s.up n (P2.base.back B el s.up (fun z => s.own0 z) n), rfl, ex, q0⟩
section
variable {X : Cx} {ee : Expr} {es : List Expr} {ga : Ax} {np : Nat} {m : MF} {rw : Bool}
def xE (rw : Bool) (np : Nat) (m : MF) (ga : Ax) : Ox := fun E st Q => ga E st fun rs st1 => cE rw np m E st1 rs Q
def xP (np : Nat) (m : MF) (ga : Ax) : Ox := fun E st Q => ga E st fun rs st1 => cP np m E st1 rs Q
/-- how a call is read, whatever is wanted of errors -/
def CallSp (X : Cx) (ee : Expr) (es : List Expr) (sp : Sp) : Prop := ∀ (Ew : WX), Takes X Ew → ∀ {t : TA}, PA X es t → PE X ee (tCallS sp (WE Ew) t)
theorem po_E (h : CallSp X ee es (spM rw np m)) (ha : PXA X es ga) : PO X ee (xE rw np m ga) := fun c l => peOf (h (wish c) l (ha c l)) fun σ H Q ⟨W, st, H1, Q0, hH, P, q, k⟩ =>
  ⟨W, st, H1, _, hH, P, q, fun rs st1 vs W1 H2 q1 s1 P1 rvs => cE_ok P1 rvs q1 fun o st' v W' H3 q0 s P' ov => k _ _ _ _ _ q0 (s1.trans s) P' ov⟩
theorem po_P (h : CallSp X ee es (spM false np m)) (ha : PXA X es ga) : PO X ee (xP np m ga) := fun c l => peOf (h (wish c) l (ha c l)) fun σ H Q ⟨W, st, H1, Q0, hH, P, q, k⟩ =>
  ⟨W, st, H1, _, hH, P, q, fun rs st1 vs W1 H2 q1 s1 P1 rvs => cP_ok P1 rvs q1 fun o st' v W' H3 q0 s P' ov => k _ _ _ _ _ q0 (s1.trans s) P' ov⟩
theorem call_sp {k : Nat} {f : Addr} {fd : FuncData} {ps : List Str} {sp : Sp} {x : Str} {p pos : Pos} {e : Expr} (F : FnOk X.prog X.w X.K X.mg X.base (L2.CX X.prog X.w) k f fd ps sp) (hr : Room k X.A) (hg : Gl X x) (hm : X.mg x = some (.ref f)) (hk : PySem.W.keepIn X.K (.ref f) = true) (hb : Binds X.K fd ps [])
    (hdb : (x == ("__debug__" : Str)) = false := by decide) (he : starEach (e :: es) X.env = (false, eval e X.env) :: starEach es X.env := by rfl) (hpl : (backTo pos (starEach es X.env)).any (·.1) = false := by rfl) : CallSp X (.Call (.Name x p) (e :: es) [] pos) (e :: es) sp :=
  fun Ew tk {t} ha => pe_callS F hr hg hm hk hb (fun σ => passAt tk σ) ha hdb he hpl
end
end Q
namespace Q
open PySem L2 PySem.Spec PyProof.Rows
/-! ### targets -/
abbrev Tg := D → Ps → (Ps → Prop) → Prop
theorem set_wipe {σ : L2.St} {i : Nat} {x : Option V} {vs : List Nat} (h : i ∈ vs) : wipe (σ.set i x) vs = wipe σ vs := by
  induction vs with
  | nil => cases h
  | cons v vs ih =>
    unfold wipe
    by_cases e : i ∈ vs
    · rw [ih e]
    · have e2 : i = v := (List.mem_cons.mp h).elim id fun z => absurd z e
      subst e2
      clear ih h
      have : ∀ (vs : List Nat), i ∉ vs → wipe (σ.set i x) vs = (wipe σ vs).set i x := by
        intro vs
        induction vs with
        | nil => intro _; rfl
        | cons w vs ih =>
          intro n
          rw [List.mem_cons, not_or] at n
          unfold wipe
          rw [ih n.2, List.set_comm _ _ n.1]
      rw [this vs e, List.set_set]
def tXG (c : C0) (tg : Tg) (is : List Nat) : TG := fun v σ H Q => ∃ W st H1 d Q0, H = lockH W.L H1 ∧ Pre c W st σ H1 ∧ Rp W H1 v d ∧ tg d st Q0 ∧
  ∀ st' σ', Q0 st' → Pre c W st' σ' H1 → (∀ vs : List Nat, (∀ i ∈ is, i ∈ vs) → wipe σ' vs = wipe σ vs) → Q σ' (lockH W.L H1)
def PXG (X : Cx) (e : Expr) (tg : Tg) (is : List Nat) : Prop := ∀ c, Lk X c → PG X e (tXG c tg is)
theorem pgOf {X : Cx} {e : Expr} {t t' : TG} (h : PG X e t) (m : ∀ v σ H Q, t' v σ H Q → t v σ H Q) : PG X e t' := ⟨fun pins s σ H v u Q I r q => h.run pins s σ H v u Q I r (m v σ H Q q)⟩
theorem pgsOf {X : Cx} {e : List Expr} {t t' : TGs} (h : PGs X e t) (m : ∀ v σ H Q, t' v σ H Q → t v σ H Q) : PGs X e t' := ⟨fun pins s σ H v u Q I r q => h.run pins s σ H v u Q I r (m v σ H Q q)⟩
def gN (i : Nat) : Tg := fun d st Q => Q { st with ρ := st.ρ.set i (.d d) }
theorem pxg_name {X : Cx} {e : Expr} {i : Nat} (h : PG X e (gName i)) : PXG X e (gN i) [i] := fun c l => pgOf h fun v σ H Q ⟨W, st, H1, d, Q0, hH, P, r, q, k⟩ => by
  subst hH
  exact k _ _ q (P.set i r) fun vs hv => set_wipe (hv i List.mem_cons_self)
abbrev Tgs := List D → Ps → (Ps → Prop) → Prop
def tXGs (c : C0) (tg : Tgs) (is : List Nat) : TGs := fun vs σ H Q => ∃ W st H1 ds Q0, H = lockH W.L H1 ∧ Pre c W st σ H1 ∧ RepL W.φ W.F H1 vs ds ∧ tg ds st Q0 ∧
  ∀ st' σ', Q0 st' → Pre c W st' σ' H1 → (∀ vs : List Nat, (∀ i ∈ is, i ∈ vs) → wipe σ' vs = wipe σ vs) → Q σ' (lockH W.L H1)
def PXGs (X : Cx) (es : List Expr) (tg : Tgs) (is : List Nat) : Prop := ∀ c, Lk X c → PGs X es (tXGs c tg is)
def gsN : Tgs := fun ds st Q => ds = [] ∧ Q st
def gsC (t : Tg) (u : Tgs) : Tgs := fun ds st Q => match ds with
  | d :: ds => t d st fun st' => u ds st' Q
  | [] => False
theorem pxgs_nil {X : Cx} : PXGs X [] gsN [] := fun c l => pgsOf pgs_nil fun vs σ H Q ⟨W, st, H1, ds, Q0, hH, P, r, q, k⟩ => by
  subst hH
  obtain ⟨rfl, q⟩ := q
  cases r
  exact ⟨rfl, k _ _ q P fun _ _ => rfl⟩
theorem pxgs_cons {X : Cx} {e : Expr} {es : List Expr} {t : Tg} {u : Tgs} {is js : List Nat} (h1 : PXG X e t is) (h2 : PXGs X es u js) (hs : (assignEach (e :: es) X.env).map (·.2) = assign e X.env :: (assignEach es X.env).map (·.2) := by rfl) : PXGs X (e :: es) (gsC t u) (is ++ js) :=
  fun c l => pgsOf (pgs_cons (h1 c l) (h2 c l) hs) fun vs σ H Q ⟨W, st, H1, ds, Q0, hH, P, r, q, k⟩ => by
    cases r with
    | nil => exact q.elim
    | cons r1 r2 =>
      exact ⟨_, _, rfl, W, st, H1, _, _, hH, P, r1, q, fun st' σ' q' P' w1 => ⟨W, st', H1, _, _, rfl, P', r2, q', fun st2 σ2 q2 P2 w2 => k _ _ q2 P2 fun vs hv => (w2 vs fun i hi => hv i (List.mem_append_right _ hi)).trans (w1 vs fun i hi => hv i (List.mem_append_left _ hi))⟩⟩
def gT (n : Nat) (u : Tgs) : Tg := fun d st Q => match d with
  | .tup ds => ds.length = n ∧ u ds st Q
  | _ => False
theorem pxg_tup {X : Cx} {es : List Expr} {k n : Nat} {u : Tgs} {is : List Nat} {pos : Pos} (hc : X.calm = true) (h : PXGs X es u is) (hn : (assignEach es X.env).length = n := by rfl) (hst : (assignEach es X.env).findIdx? (·.1) = none := by rfl) : PXG X (.Tuple es k pos) (gT n u) is :=
  fun c l => pgOf (pg_tup hc (h c l) hn hst) fun v σ H Q ⟨W, st, H1, d, Q0, hH, P, r, q, k⟩ => by
    unfold gT at q
    split at q
    · obtain ⟨hl, q⟩ := q
      cases r with
      | tup h1 r1 =>
        subst hH
        exact ⟨_, _, rfl, SqT.of (P.nol h1 rfl), by rw [r1.length]; exact hl, W, st, H1, _, Q0, rfl, P, r1, q, k⟩
    · exact q.elim
/-- targets = value -/
def sAsg (g : Ox) (tg : Tg) : Sx := fun E K st => g E st fun o st1 => tg o.toD st1 fun st2 => K.nx st2
theorem pxs_asg {X : Cx} {e tge : Expr} {s : Stmt} {g : Ox} {tg : Tg} {is : List Nat} (h : ∀ {t : TE} {g : TG}, PE X e t → PG X tge g → PS X s (tAsg t g)) (he : PO X e g) (hg : PXG X tge tg is) : PXS X s (sAsg g tg) := fun c l => psOf (h (he c l) (hg c l)) fun D σ H ⟨W, st, H1, K, hH, P, ek, q⟩ =>
  ⟨W, st, H1, _, hH, P, q, fun o st1 v W1 H2 q1 s1 P1 ov => by
    obtain ⟨W3, s3, P3, r, eL⟩ := OV.plain P1 ov
    exact ⟨W3, st1, H2, _, _, by rw [eL], P3, r, q1, fun st' σ' q' P' _ => ek.1 _ _ _ _ q' P' (P.aft (s1.trans s3))⟩⟩
/-! ### what is walked -/
def YD (W : Wd) (H : Hp) (x : V) (H3 : Hp) (d : D) : Prop := (H3 = lockH W.L H ∧ Rp W H x d) ∨ ∃ T ys es, x = .ref T ∧ H T = none ∧ W.L.lookup T = none ∧ H3 = upd (lockH W.L H) T (.tup ys) ∧ d = .tup es ∧ RepL W.φ W.F H ys es
def Goes (c : C0) (W : Wd) (H : Hp) (J : It) (ds : List D) : Prop := ∀ (Z : Addr → Prop) W2 st2 σ2 H2, Pre { c with R := Z } W2 st2 σ2 H2 → Aft W H W2 H2 →
  (∀ i d, ds[i]? = some d → J.go i (lockH W2.L H2) ∧ ∀ x H3, J.yld i (lockH W2.L H2) x H3 → YD W2 H2 x H3 d) ∧ ∀ i, ds.length ≤ i → J.stop i (lockH W2.L H2)
theorem YD.ok {c : C0} {W : Wd} {st : Ps} {σ : L2.St} {H H3 : Hp} {x : V} {d : D} (P : Pre c W st σ H) (h : YD W H x H3 d) : ∃ H', H3 = lockH W.L H' ∧ Step c.rw W H W H' ∧ Pre c W st σ H' ∧ Rp W H' x d := by
  rcases h with ⟨rfl, r⟩ | ⟨T, ys, es, rfl, hT, hl, rfl, rfl, r⟩
  · exact ⟨H, rfl, .refl _ _ _, P, r⟩
  · obtain ⟨s, P', _⟩ := P.fresh (o := .tup ys) hT
    exact ⟨_, lock_upd hl, s, P', .tup upd_same (r.fut (P.fut s))⟩
abbrev Ix := EK → Ps → (List D → Ps → Prop) → Prop
def tXI (c : C0) (f : Ix) : TI := fun σ H R => ∃ W st H1 Q0, H = lockH W.L H1 ∧ Pre c W st σ H1 ∧ f c.E st Q0 ∧
  ∀ ds st' W' H2 J, Q0 ds st' → Step c.rw W H1 W' H2 → Pre c W' st' σ H2 → Goes c W' H2 J ds → R J (lockH W'.L H2)
def PXI (X : Cx) (tg iter : Expr) (f : Ix) : Prop := ∀ c, Lk X c → PI X tg iter (tXI c f)
theorem piOf {X : Cx} {tg iter : Expr} {t t' : TI} (h : PI X tg iter t) (m : ∀ σ H R, t' σ H R → t σ H R) : PI X tg iter t' := ⟨fun pins s σ H R I q => h.run pins s σ H R I (m σ H R q)⟩
/-! ### for -/
def forW (tg : Tg) (b : Sx) (E : EK) (K : En) : List D → Ps → Prop
  | [], st => K.nx st
  | d :: ds, st => tg d st fun st' => b E ⟨forW tg b E K ds, K.rt, K.nx, forW tg b E K ds⟩ st'
def sFor (f : Ix) (tg : Tg) (b : Sx) : Sx := fun E K st => f E st fun ds st1 => forW tg b E K ds st1
theorem pxs_for {X : Cx} {tge iter : Expr} {body : List Stmt} {s : Stmt} {f : Ix} {tg : Tg} {is : List Nat} {b : Sx} (h : ∀ {wi : TI} {g : TG} {tb : TS}, PI X tge iter wi → PG X tge g → PSs X body tb → PS X s (tFor wi g tb)) (hi : PXI X tge iter f) (hg : PXG X tge tg is) (hb : PXB X body b) : PXS X s (sFor f tg b) :=
  fun c l => psOf (h (hi c l) (hg c l) (hb c l)) fun D σ H ⟨W, st, H1, K, hH, P, ek, q⟩ => by
    refine ⟨W, st, H1, _, hH, P, q, fun ds st1 W1 H2 J q1 s1 P1 go => ?_⟩
    refine ⟨fun i m σ H => m = ds.length - i ∧ i ≤ ds.length ∧ ∃ W2 st2 H3, H = lockH W2.L H3 ∧ Pre c W2 st2 σ H3 ∧ Aft W1 H2 W2 H3 ∧ forW tg b c.E K (ds.drop i) st2, ⟨ds.length, by simp, Nat.zero_le _, W1, st1, H2, rfl, P1, .refl _ _, q1⟩, ?_⟩
    rintro i m σ2 Hh ⟨rfl, hi, W2, st2, H3, rfl, P2, a2, q2⟩
    obtain ⟨g1, g2⟩ := go c.R W2 st2 σ2 H3 P2 a2
    by_cases hlt : i < ds.length
    · obtain ⟨g3, g4⟩ := g1 i ds[i] (List.getElem?_eq_getElem hlt)
      rw [List.drop_eq_getElem_cons hlt] at q2
      refine .inr ⟨g3, fun σ' H' => i + 1 ≤ ds.length ∧ ∃ W2 st2 H3, H' = lockH W2.L H3 ∧ Pre c W2 st2 σ' H3 ∧ Aft W1 H2 W2 H3 ∧ forW tg b c.E K (ds.drop (i + 1)) st2, fun σ' H' z => ⟨ds.length - (i + 1), by omega, rfl, z⟩, fun x H' y => ?_⟩
      obtain ⟨H4, rfl, s4, P4, r4⟩ := YD.ok P2 (g4 x H' y)
      refine ⟨W2, st2, H4, _, _, rfl, P4, r4, q2, fun st5 σ5 q5 P5 _ => ⟨W2, st5, H4, _, rfl, P5, ⟨?_, ?_, ?_, ?_⟩, q5⟩⟩
      · exact fun st W6 σ H6 q P6 a6 => ⟨hlt, W6, st, H6, rfl, P6, (a2.trans (P2.aft s4)).trans a6, q⟩
      · exact fun o st W6 σ H6 v q P6 a6 ov => ek.2.1 _ _ _ _ _ _ q P6 ((((P.aft s1).trans a2).trans (P2.aft s4)).trans a6) ov
      · exact fun st W6 σ H6 q P6 a6 => ek.1 _ _ _ _ q P6 ((((P.aft s1).trans a2).trans (P2.aft s4)).trans a6)
      · exact fun st W6 σ H6 q P6 a6 => ⟨hlt, W6, st, H6, rfl, P6, (a2.trans (P2.aft s4)).trans a6, q⟩
    · have e : i = ds.length := by omega
      rw [e, List.drop_length] at q2
      exact .inl ⟨g2 i (by omega), ek.1 _ _ _ _ q2 P2 ((P.aft s1).trans a2)⟩
/-! ### while: at most n turns -/
end Q
namespace Q
open PySem L2 PySem.Spec PyProof.Rows
/-! ### a list, a tuple, a dict by its keys, a text -/
def rIt (K : PySem.W.Frag) (x : V) (H : Hp) (R : It → Hp → Prop) : Prop :=
  (∃ a, x = .ref a ∧ (∃ xs, SqL K H a xs) ∧ R (Itl K a) H) ∨ (∃ a, x = .ref a ∧ (∃ xs, SqT K H a xs) ∧ R (Itt K a) H) ∨ (∃ z, x = .str z ∧ R (Its z) H) ∨
  (∃ d kvs, x = .ref d ∧ ((∃ o, H d = some (.frz o (.dK kvs)) ∧ R (Itk d o kvs) H) ∨ (H d = some (.dK kvs) ∧ ∀ o, R (Itk d o kvs) (upd H d (.frz o (.dK kvs)))))) ∨
  (∃ d kvs, x = .ref d ∧ ((∃ o, H d = some (.frz o (.dT kvs)) ∧ R (Itkt d o kvs) H) ∨ (H d = some (.dT kvs) ∧ ∀ o, R (Itkt d o kvs) (upd H d (.frz o (.dT kvs))))))
section
variable {X : Cx} {pins : List (Addr × Obj)} {σ : L2.St} {s : Shared} {tg : Expr} {R : It → Hp → Prop}
theorem it_dK {H : Hp} {d : Addr} {o : Obj} {kvs : List (Key × V)} (I : L2.Inv X pins σ H s) (h : H d = some (.frz o (.dK kvs))) (q : R (Itk d o kvs) H) : wpAny (model X.prog X.w) X.A (pyIter (.ref d)) (PIE X pins σ tg R) X.xe s := by
  obtain ⟨hs, hgd, hx, es, ep, vs, hdt, hsz, kv, hm⟩ := I.frzK h
  exact iter_keys hs hgd hx hdt (pi_one (tk := s.toks) I _ (turn_keys _ hdt) ⟨_, Heap.get?_push_size _ rfl, rfl, by rw [hsz]; rfl⟩ q)
theorem it_dT {H : Hp} {d : Addr} {o : Obj} {kvs : List (List Key × V)} (I : L2.Inv X pins σ H s) (h : H d = some (.frz o (.dT kvs))) (q : R (Itkt d o kvs) H) : wpAny (model X.prog X.w) X.A (pyIter (.ref d)) (PIE X pins σ tg R) X.xe s := by
  obtain ⟨hs, hgd, hx, es, ep, hdt, hsz, en⟩ := I.frzT h
  exact iter_keys hs hgd hx hdt (pi_one (tk := s.toks) I _ (turn_keysT _ hdt) ⟨_, Heap.get?_push_size _ rfl, rfl, by rw [hsz]; rfl⟩ q)
theorem it_any {H : Hp} {x : V} {u : Value} (I : L2.Inv X pins σ H s) (r : RelV x u) (q : rIt X.K x H R) : wpAny (model X.prog X.w) X.A (pyIter u) (PIE X pins σ tg R) X.xe s := by
  rcases q with ⟨a, rfl, ⟨xs, hq⟩, q⟩ | ⟨a, rfl, ⟨xs, hq⟩, q⟩ | ⟨z, rfl, q⟩ | ⟨d, kvs, rfl, ⟨o, h, q⟩ | ⟨h, q⟩⟩ | ⟨d, kvs, rfl, ⟨o, h, q⟩ | ⟨h, q⟩⟩
  · cases r
    obtain ⟨its, rv, p, hz⟩ := I.list hq
    exact wpAny_pyIter_list p.isList (pi_one (tk := s.toks) I _ (turn_list a _) ⟨_, Heap.get?_push_size _ rfl, rfl, rfl⟩ q)
  · cases r
    obtain ⟨its, rv, p, hz⟩ := I.tuple hq
    exact wpAny_pyIter_tuple (show s.heap.IsTuple a its.toArray from p) (pi_one (tk := s.toks) I _ (turn_tuple a _) ⟨_, Heap.get?_push_size _ rfl, rfl, rfl⟩ q)
  · obtain ⟨t, rfl⟩ := r
    cases ha : z.cps.all (· < 128) with
    | false => exact wpAny_pyIter_wide ha (pi_one (tk := s.toks) I _ (turn_str _ z t "str_iterator" (.inr rfl)) ⟨_, Heap.get?_push_size _ rfl, rfl, rfl⟩ q)
    | true => exact wpAny_pyIter_ascii ha (pi_one (tk := s.toks) I _ (turn_str _ z t "str_ascii_iterator" (.inl rfl)) ⟨_, Heap.get?_push_size _ rfl, rfl, rfl⟩ q)
  · cases r
    exact it_dK I h q
  · cases r
    obtain ⟨od, I2⟩ := I.lock h trivial
    exact it_dK I2 upd_same (q od)
  · cases r
    exact it_dT I h q
  · cases r
    obtain ⟨od, I2⟩ := I.lock h trivial
    exact it_dT I2 upd_same (q od)
theorem pi_any {l : Expr} {tl : TE} (hl : PE X l tl) : PI X tg l (fun σ H R => tl σ H fun x H1 => rIt X.K x H1 R) := ⟨fun pins s σ H R I h => thn (hl.run pins s σ H _ I h) fun v s1 ⟨x, H1, I1, r1, q⟩ => it_any I1 r1 q⟩
end
/-! ### locks -/
def Wd.lk (W : Wd) (d : Addr) (o : Obj) : Wd := { W with L := (d, o) :: W.L }
theorem Pre.lock {c : C0} {W : Wd} {st : Ps} {σ : L2.St} {H : Hp} (P : Pre c W st σ H) {d : Addr} {u : HO} (o : Obj) (hF : W.F d ∨ c.rw = false ∧ W.own d) (hd : H d = some u) (hu : dictO u = true) (hl : W.L.lookup d = none) :
    Step c.rw W H (W.lk d o) H ∧ Pre c (W.lk d o) st σ H ∧ lockH (W.lk d o).L H = upd (lockH W.L H) d (.frz o u) := by
  have s1 : Step c.rw W H (W.lk d o) H := ⟨fun _ _ e => e, fun _ h => h, fun _ _ e _ => e, fun _ _ e => e, fun _ h => h, fun _ h => .inl h, ⟨[(d, o)], rfl⟩, fun _ h => .inl h⟩
  have e1 : ∀ b, ((d, o) :: W.L).lookup b = if b = d then some o else W.L.lookup b := fun b => by
    rw [List.lookup_cons]
    by_cases e : b = d
    · subst e
      simp
    · rw [beq_eq_false_iff_ne.mpr e, if_neg e]
  refine ⟨s1, ⟨P.hrw, P.step.trans s1, P.new, ⟨P.base.fdom, P.base.len, P.base.cell, P.base.apart, P.base.ownF, ?_, fun a ob h => ?_⟩, P.slen, P.slot, P.sown, P.sapart, P.rsv, P.hvw, P.own0⟩, ?_⟩
  · show ((d, o) :: W.L).map (·.1) |>.Nodup
    rw [List.map_cons, List.nodup_cons]
    refine ⟨fun z => ?_, P.base.lN⟩
    obtain ⟨p, hp, e⟩ := List.mem_map.mp z
    have := lookup_of_mem P.base.lN hp
    rw [show p.1 = d from e, hl] at this
    cases this
  · have h' : ((d, o) :: W.L).lookup a = some ob := h
    rw [e1] at h'
    split at h'
    · rename_i z
      subst z
      exact ⟨hF, u, hd, hu⟩
    · exact P.base.lF a ob h'
  · funext b
    show lockH ((d, o) :: W.L) H b = _
    unfold lockH
    rw [e1]
    by_cases z : b = d
    · subst z
      rw [if_pos rfl, upd_same, hd]
      rfl
    · rw [if_neg z, upd_ne z]
/-! ### the items -/
def kD : Key → D
  | .inl i => .int i
  | .inr s => .str s
def itemsD : D → Option (List D)
  | .lst xs => some xs
  | .tup xs => some xs
  | .dK kvs => some (kvs.map fun kv => kD kv.1)
  | .dT kvs => some (kvs.map fun kv => .tup (kv.1.map kD))
  | .str s => some (s.cps.toList.map fun c => .str ⟨#[c]⟩)
  | _ => none
def iA (f : Ex) : Ix := fun E st Q => f E st fun r st1 => opt (frz st1 r) fun q => opt (itemsD q.1) fun ds => Q ds q.2
theorem kD_rep (φ F H) (k : Key) : Rep φ F H (kV k) (kD k) := by
  cases k with
  | inl i => exact .int i
  | inr s => exact .str s
theorem kDs_rep (φ F H) : ∀ ks : List Key, RepL φ F H (ks.map kV) (ks.map kD)
  | [] => .nil
  | k :: ks => .cons (kD_rep φ F H k) (kDs_rep φ F H ks)
theorem RepK.length {φ F H} : ∀ {vs : List (Key × V)} {ds : List (Key × D)}, RepK φ F H vs ds → vs.length = ds.length
  | _, _, .nil => rfl
  | _, _, .cons _ t => congrArg (· + 1) t.length
theorem RepT.length {φ F H} : ∀ {vs : List (List Key × V)} {ds : List (List Key × D)}, RepT φ F H vs ds → vs.length = ds.length
  | _, _, .nil => rfl
  | _, _, .cons _ t => congrArg (· + 1) t.length
theorem RepK.get {φ F H} : ∀ {vs : List (Key × V)} {ds : List (Key × D)} {i : Nat} {k : Key} {v : V}, RepK φ F H vs ds → vs[i]? = some (k, v) → ∃ d, ds[i]? = some (k, d) ∧ Rep φ F H v d
  | _, _, i, k, v, .nil, e => by simp at e
  | _, _, 0, k, v, .cons h _, e => by cases e; exact ⟨_, rfl, h⟩
  | _, _, i + 1, k, v, .cons _ t, e => by
    obtain ⟨d, h1, h2⟩ := t.get (i := i) (by simpa using e)
    exact ⟨d, by simpa using h1, h2⟩
theorem RepT.get {φ F H} : ∀ {vs : List (List Key × V)} {ds : List (List Key × D)} {i : Nat} {k : List Key} {v : V}, RepT φ F H vs ds → vs[i]? = some (k, v) → ∃ d, ds[i]? = some (k, d) ∧ Rep φ F H v d
  | _, _, i, k, v, .nil, e => by simp at e
  | _, _, 0, k, v, .cons h _, e => by cases e; exact ⟨_, rfl, h⟩
  | _, _, i + 1, k, v, .cons _ t, e => by
    obtain ⟨d, h1, h2⟩ := t.get (i := i) (by simpa using e)
    exact ⟨d, by simpa using h1, h2⟩
section
variable {c : C0} {W : Wd} {st : Ps} {σ : L2.St} {H : Hp} {K : PySem.W.Frag}
theorem goes_l {a : Addr} {xs : List V} {ds : List D} (hF : W.F a) (h : H a = some (.lst xs)) (r : RepL W.φ W.F H xs ds) : Goes c W H (Itl K a) ds := fun Z W2 st2 σ2 H2 P2 a2 => by
  have h2 : SqL K (lockH W2.L H2) a xs := SqL.of (P2.nol (a2.fut.keep a _ hF h) rfl)
  have r2 := r.fut a2.fut
  refine ⟨fun i d e => ?_, fun i hi => ⟨xs, h2, by rw [r.length]; exact hi⟩⟩
  obtain ⟨v, e1, e2⟩ := r2.get e
  refine ⟨⟨xs, v, h2, e1⟩, ?_⟩
  rintro x H3 ⟨rfl, y⟩
  have := y xs h2
  rw [e1] at this
  cases this
  exact .inl ⟨rfl, e2⟩
theorem goes_t {a : Addr} {xs : List V} {ds : List D} (h : H a = some (.tup xs)) (r : RepL W.φ W.F H xs ds) : Goes c W H (Itt K a) ds := fun Z W2 st2 σ2 H2 P2 a2 => by
  have h2 : SqT K (lockH W2.L H2) a xs := SqT.of (P2.nol (a2.fut.tups a _ h) rfl)
  have r2 := r.fut a2.fut
  refine ⟨fun i d e => ?_, fun i hi => ⟨xs, h2, by rw [r.length]; exact hi⟩⟩
  obtain ⟨v, e1, e2⟩ := r2.get e
  refine ⟨⟨xs, v, h2, e1⟩, ?_⟩
  rintro x H3 ⟨rfl, y⟩
  have := y xs h2
  rw [e1] at this
  cases this
  exact .inl ⟨rfl, e2⟩
theorem goes_s (z : Str) : Goes c W H (Its z) (z.cps.toList.map fun c => .str ⟨#[c]⟩) := fun Z W2 st2 σ2 H2 P2 a2 => by
  refine ⟨fun i d e => ?_, fun i hi => ?_⟩
  · rw [List.getElem?_map] at e
    cases q : z.cps.toList[i]? with
    | none => rw [q] at e; cases e
    | some c =>
      rw [q] at e
      cases e
      refine ⟨?_, ?_⟩
      · have := (List.getElem?_eq_some_iff.mp q).1
        rw [Array.length_toList] at this
        exact this
      · rintro x H3 ⟨rfl, c', e1, rfl⟩
        rw [← Array.getElem?_toList, q] at e1
        cases e1
        exact .inl ⟨rfl, .str _⟩
  · rw [List.length_map, Array.length_toList] at hi
    exact hi
theorem lk_at {W W2 : Wd} {H H2 : Hp} {d : Addr} {o : Obj} {u : HO} {Z : Addr → Prop} {st2 : Ps} {σ2 : L2.St} (P2 : Pre { c with R := Z } W2 st2 σ2 H2) (a2 : Aft W H W2 H2) (hF : W.F d) (hl : W.L.lookup d = some o) (h : H d = some u) : lockH W2.L H2 d = some (.frz o u) := by
  obtain ⟨more, e⟩ := a2.locks
  have hm : (d, o) ∈ W.L := by
    clear a2 P2 h hF e
    generalize W.L = L at hl
    induction L with
    | nil => cases hl
    | cons p L ih =>
      obtain ⟨a, o'⟩ := p
      rw [List.lookup_cons] at hl
      cases q : d == a with
      | true =>
        rw [q] at hl
        cases hl
        rw [beq_iff_eq.mp q]
        exact List.mem_cons_self
      | false =>
        rw [q] at hl
        exact List.mem_cons_of_mem _ (ih hl)
  have := lookup_of_mem P2.base.lN (show (d, o) ∈ W2.L by rw [e]; exact List.mem_append_right _ hm)
  show lockH W2.L H2 d = _
  unfold lockH
  rw [this, a2.fut.keep d u hF h]
  rfl
theorem goes_k {d : Addr} {o : Obj} {xs : List (Key × V)} {ds : List (Key × D)} (hF : W.F d) (hl : W.L.lookup d = some o) (h : H d = some (.dK xs)) (r : RepK W.φ W.F H xs ds) : Goes c W H (Itk d o xs) (ds.map fun kv => kD kv.1) := fun Z W2 st2 σ2 H2 P2 a2 => by
  have h2 := lk_at P2 a2 hF hl h
  have hlen := r.length
  refine ⟨fun i x e => ?_, fun i hi => ⟨h2, by rw [List.length_map] at hi; omega⟩⟩
  have hi : i < ds.length := by
    have := (List.getElem?_eq_some_iff.mp e).1
    rw [List.length_map] at this
    exact this
  refine ⟨⟨h2, by omega⟩, ?_⟩
  rintro y H3 ⟨rfl, k, v, e1, rfl⟩
  obtain ⟨d', e2, _⟩ := r.get e1
  rw [List.getElem?_map, e2] at e
  cases e
  exact .inl ⟨rfl, kD_rep _ _ _ k⟩
theorem goes_kt {d : Addr} {o : Obj} {xs : List (List Key × V)} {ds : List (List Key × D)} (hF : W.F d) (hl : W.L.lookup d = some o) (h : H d = some (.dT xs)) (r : RepT W.φ W.F H xs ds) : Goes c W H (Itkt d o xs) (ds.map fun kv => .tup (kv.1.map kD)) := fun Z W2 st2 σ2 H2 P2 a2 => by
  have h2 := lk_at P2 a2 hF hl h
  have hlen := r.length
  refine ⟨fun i x e => ?_, fun i hi => ⟨h2, by rw [List.length_map] at hi; omega⟩⟩
  have hi : i < ds.length := by
    have := (List.getElem?_eq_some_iff.mp e).1
    rw [List.length_map] at this
    exact this
  refine ⟨⟨h2, by omega⟩, ?_⟩
  rintro y H3 ⟨rfl, k, v, q, e1, rfl, hq⟩
  obtain ⟨d', e2, _⟩ := r.get e1
  rw [List.getElem?_map, e2] at e
  cases e
  refine .inl ⟨rfl, .tup (xs := k.map kV) ?_ (kDs_rep _ _ _ k)⟩
  have : ∀ {a : Addr} {xs : List V}, lockH W2.L H2 a = some (.tup xs) → H2 a = some (.tup xs) := fun {a xs} z => by
    unfold lockH at z
    cases m : W2.L.lookup a with
    | none => rw [m] at z; exact z
    | some ob =>
      rw [m] at z
      cases m2 : H2 a with
      | none => rw [m2] at z; cases z
      | some w => rw [m2] at z; cases z
  exact this hq
end
theorem pxi_any {X : Cx} {tg e : Expr} {f : Ex} (h : PX X e f) : PXI X tg e (iA f) := fun c l => piOf (pi_any (h c l)) fun σ H R ⟨W, st, H1, Q0, hH, P, q, k⟩ => ⟨W, st, H1, _, hH, P, q, fun r st1 v W1 H2 q1 s1 P1 rv => by
  obtain ⟨y, e1, q1⟩ := opt_ex q1
  obtain ⟨ds, e2, q1⟩ := opt_ex q1
  obtain ⟨W2, s2, P2, r2, eL⟩ := frz_ok P1 e1 rv
  rw [← eL]
  have s12 := s1.trans s2
  obtain ⟨d, st2⟩ := y
  dsimp only at r2 P2 e2 q1
  unfold itemsD at e2
  split at e2
  · cases e2
    cases r2 with
    | lst h1 h2 h3 => exact .inl ⟨_, rfl, ⟨_, SqL.of (P2.nol h2 rfl)⟩, k _ _ _ _ _ q1 s12 P2 (goes_l h1 h2 h3)⟩
  · cases e2
    cases r2 with
    | tup h2 h3 => exact .inr (.inl ⟨_, rfl, ⟨_, SqT.of (P2.nol h2 rfl)⟩, k _ _ _ _ _ q1 s12 P2 (goes_t h2 h3)⟩)
  · cases e2
    cases r2 with
    | dK h1 h2 h3 =>
      rename_i a xs
      refine .inr (.inr (.inr (.inl ⟨a, xs, rfl, ?_⟩)))
      cases hl : W2.L.lookup a with
      | some o => exact .inl ⟨o, by show lockH W2.L H2 a = _; unfold lockH; rw [hl, h2]; rfl, k _ _ _ _ _ q1 s12 P2 (goes_k h1 hl h2 h3)⟩
      | none =>
        refine .inr ⟨(lock_at hl).trans h2, fun o => ?_⟩
        obtain ⟨s3, P3, e3⟩ := P2.lock o (.inl h1) h2 rfl hl
        rw [← e3]
        exact k _ _ _ _ _ q1 (s12.trans s3) P3 (goes_k (W := W2.lk a o) h1 (by show ((a, o) :: W2.L).lookup a = _; rw [List.lookup_cons]; simp) h2 h3)
  · cases e2
    cases r2 with
    | dT h1 h2 h3 =>
      rename_i a xs
      refine .inr (.inr (.inr (.inr ⟨a, xs, rfl, ?_⟩)))
      cases hl : W2.L.lookup a with
      | some o => exact .inl ⟨o, by show lockH W2.L H2 a = _; unfold lockH; rw [hl, h2]; rfl, k _ _ _ _ _ q1 s12 P2 (goes_kt h1 hl h2 h3)⟩
      | none =>
        refine .inr ⟨(lock_at hl).trans h2, fun o => ?_⟩
        obtain ⟨s3, P3, e3⟩ := P2.lock o (.inl h1) h2 rfl hl
        rw [← e3]
        exact k _ _ _ _ _ q1 (s12.trans s3) P3 (goes_kt (W := W2.lk a o) h1 (by show ((a, o) :: W2.L).lookup a = _; rw [List.lookup_cons]; simp) h2 h3)
  · cases e2
    cases r2
    exact .inr (.inr (.inl ⟨_, rfl, k _ _ _ _ _ q1 s12 P2 (goes_s _)⟩))
  · cases e2⟩
end Q
namespace Q
open PySem L2 PySem.Spec PyProof.Rows
/-! ### range, enumerate, zip -/
def rngD (lo : Int) (n : Nat) : List D := (List.range n).map fun (i : Nat) => D.int (lo + (i : Int))
def iR1 (g : Ax) : Ix := fun E st Q => g E st fun rs st1 => opt (looks st1 rs) fun ds => match ds with
  | [.int j] => (-(2 ^ 62) ≤ j ∧ j < 2 ^ 62) ∧ Q (rngD 0 j.toNat) st1
  | _ => False
theorem goes_r {c : C0} {W : Wd} {H : Hp} (lo : Int) (n : Nat) : Goes c W H (L2.Itr lo n) (rngD lo n) := fun Z W2 st2 σ2 H2 P2 a2 => by
  refine ⟨fun i d e => ?_, fun i hi => by unfold rngD at hi; rw [List.length_map, List.length_range] at hi; exact hi⟩
  unfold rngD at e
  rw [List.getElem?_map] at e
  cases q : (List.range n)[i]? with
  | none => rw [q] at e; cases e
  | some j =>
    rw [q] at e
    cases e
    have hi := (List.getElem?_eq_some_iff.mp q).1
    rw [List.length_range] at hi
    rw [List.getElem?_range hi] at q
    cases q
    refine ⟨hi, ?_⟩
    rintro x H3 ⟨rfl, rfl⟩
    exact .inl ⟨rfl, .int _⟩
section
variable {X : Cx} {tg iter : Expr} {es : List Expr} {ga : Ax}
theorem tops_1 {φ F H} {vs : List V} {d : D} (h : Tops φ F H vs [d]) : ∃ v, vs = [v] ∧ Top φ F H v d := by
  cases h with
  | cons a t => cases t; exact ⟨_, rfl, a⟩
theorem tops_2 {φ F H} {vs : List V} {d e : D} (h : Tops φ F H vs [d, e]) : ∃ v u, vs = [v, u] ∧ Top φ F H v d ∧ Top φ F H u e := by
  cases h with
  | cons a t =>
    cases t with
    | cons b t => cases t; exact ⟨_, _, rfl, a, b⟩
theorem pxi_r1 (h : ∀ {t : TA}, PA X es t → PI X tg iter (iRng1 t)) (ha : PXA X es ga) : PXI X tg iter (iR1 ga) := fun c l => piOf (h (ha c l)) fun σ H R ⟨W, st, H1, Q0, hH, P, q, k⟩ => ⟨W, st, H1, _, hH, P, q, fun rs st1 vs W1 H2 q1 s1 P1 rvs => by
  obtain ⟨ds, e1, q1⟩ := opt_ex q1
  have t := P1.tops rvs e1
  split at q1
  · obtain ⟨v, rfl, t1⟩ := tops_1 t
    cases t1
    exact ⟨_, rfl, q1.1.1, q1.1.2, k _ _ _ _ _ q1.2 s1 P1 (goes_r _ _)⟩
  · exact q1.elim⟩
def enumD : Nat → List D → List D
  | _, [] => []
  | n, d :: ds => .tup [.int n, d] :: enumD (n + 1) ds
theorem enumD_get : ∀ {n i : Nat} {ds : List D} {d : D}, (enumD n ds)[i]? = some d → ∃ x, ds[i]? = some x ∧ d = .tup [.int ((n + i : Nat) : Int), x]
  | n, i, [], d, e => by simp [enumD] at e
  | n, 0, x :: ds, d, e => by
    have : D.tup [.int n, x] = d := by simpa [enumD] using e
    exact ⟨x, rfl, this.symm⟩
  | n, i + 1, x :: ds, d, e => by
    obtain ⟨y, h1, h2⟩ := enumD_get (n := n + 1) (i := i) (ds := ds) (d := d) (by simpa [enumD] using e)
    exact ⟨y, by simpa using h1, by rw [h2, show n + 1 + i = n + (i + 1) by omega]⟩
theorem enumD_length : ∀ {n : Nat} {ds : List D}, (enumD n ds).length = ds.length
  | _, [] => rfl
  | n, d :: ds => congrArg (· + 1) (enumD_length (n := n + 1) (ds := ds))
def iEn (g : Ax) : Ix := fun E st Q => g E st fun rs st1 => opt (frzs st1 rs) fun q => match q.1 with
  | [.lst ds] => Q (enumD 0 ds) q.2
  | _ => False
theorem lnone_of {c : C0} {W : Wd} {st : Ps} {σ : L2.St} {H : Hp} (P : Pre c W st σ H) {T : Addr} (h : lockH W.L H T = none) : H T = none ∧ W.L.lookup T = none := P.lnone' h
theorem pxi_en (h : ∀ {t : TA}, PA X es t → PI X tg iter (iEnum X.K t)) (ha : PXA X es ga) : PXI X tg iter (iEn ga) := fun c l => piOf (h (ha c l)) fun σ H R ⟨W, st, H1, Q0, hH, P, q, k⟩ => ⟨W, st, H1, _, hH, P, q, fun rs st1 vs W1 H2 q1 s1 P1 rvs => by
  obtain ⟨⟨ds, st2⟩, e1, q1⟩ := opt_ex q1
  obtain ⟨W2, s2, P2, r2, eL⟩ := frzs_ok P1 e1 rvs
  rw [← eL]
  dsimp only at q1 r2 P2
  split at q1
  · rename_i xs
    cases r2 with
    | cons r t =>
      cases t
      cases r with
      | lst h1 h2 h3 =>
        refine ⟨_, _, rfl, SqL.of (P2.nol h2 rfl), k _ _ _ _ _ q1 (s1.trans s2) P2 fun Z W3 st3 σ3 H3 P3 a3 => ?_⟩
        have h4 := SqL.of (K := X.K) (P3.nol (a3.fut.keep _ _ h1 h2) rfl)
        refine ⟨fun i d e => ?_, fun i hi => ⟨_, h4, by rw [h3.length]; rw [enumD_length] at hi; exact hi⟩⟩
        obtain ⟨x, ex, rfl⟩ := enumD_get e
        obtain ⟨v, ev, rv⟩ := (h3.fut a3.fut).get ex
        refine ⟨⟨_, v, h4, ev⟩, ?_⟩
        rintro y H5 ⟨T, z, rfl, hT, rfl, hz⟩
        have := hz _ h4
        rw [ev] at this
        cases this
        obtain ⟨t1, t2⟩ := lnone_of P3 hT
        exact .inr ⟨T, _, _, rfl, t1, t2, rfl, rfl, .cons (by rw [Nat.zero_add]; exact .int _) (.cons rv .nil)⟩
  · exact q1.elim⟩
end
/-! ### comprehensions -/
def wipeO (ρ : List O) : List Nat → List O
  | [] => ρ
  | v :: vs => (wipeO ρ vs).set v .un
theorem wipeO_length (ρ : List O) : ∀ vs : List Nat, (wipeO ρ vs).length = ρ.length
  | [] => rfl
  | v :: vs => by unfold wipeO; rw [List.length_set, wipeO_length ρ vs]
theorem wipeO_get {ρ : List O} {i : Nat} {o : O} : ∀ {vs : List Nat}, (wipeO ρ vs)[i]? = some o → o = .un ∨ (ρ[i]? = some o ∧ i ∉ vs)
  | [], h => .inr ⟨h, List.not_mem_nil⟩
  | v :: vs, h => by
    unfold wipeO at h
    by_cases e : i = v
    · subst e
      rw [List.getElem?_set, if_pos rfl] at h
      split at h
      · cases h; exact .inl rfl
      · cases h
    · rw [List.getElem?_set_ne (Ne.symm e)] at h
      rcases wipeO_get h with z | ⟨z1, z2⟩
      · exact .inl z
      · exact .inr ⟨z1, fun y => (List.mem_cons.mp y).elim e z2⟩
theorem wipe_get {σ : L2.St} {i : Nat} : ∀ {vs : List Nat}, i ∉ vs → (wipe σ vs)[i]? = σ[i]?
  | [], _ => rfl
  | v :: vs, h => by
    rw [List.mem_cons, not_or] at h
    unfold wipe
    rw [List.getElem?_set_ne (Ne.symm h.1), wipe_get h.2]
abbrev Ps.wp (st : Ps) (vs : List Nat) : Ps := { st with ρ := wipeO st.ρ vs }
theorem Pre.wp {c c' : C0} {W : Wd} {st : Ps} {σ σ' : L2.St} {H : Hp} (P : Pre c W st σ H) {vs : List Nat} (e : wipe σ' vs = wipe σ vs) (h1 : c'.rw = c.rw) (h2 : c'.W0 = c.W0) (h3 : c'.H0 = c.H0) (h4 : ∀ a, c'.R a → c.R a) : Pre c' W (st.wp vs) σ' H := by
  have hg : ∀ i, i ∉ vs → σ'[i]? = σ[i]? := fun i n => by rw [← wipe_get (σ := σ') n, e, wipe_get n]
  have hlen : σ'.length = σ.length := by rw [← wipe_length σ' vs, e, wipe_length]
  have low : ∀ {i a}, slotOwns (wipeO st.ρ vs) σ' i a → slotOwns st.ρ σ i a := fun {i a} ⟨o, z1, z2, z3⟩ => by
    rcases wipeO_get z1 with rfl | ⟨y1, y2⟩
    · cases z2
    · exact ⟨o, y1, z2, by rw [← hg i y2]; exact z3⟩
  refine ⟨by rw [h1]; exact P.hrw, by rw [h1, h2, h3]; exact P.step, by rw [h2, h3]; exact P.new, by rw [h1]; exact P.base, by show (wipeO st.ρ vs).length = _; rw [wipeO_length, P.slen, hlen], fun i o z => ?_, fun i a z => by rw [h3]; exact P.sown i a (low z), fun i j a z y => P.sapart i j a (low z) (low y), fun a z => ?_, by rw [h1]; exact P.hvw, by rw [h2, h3]; exact P.own0⟩
  · rcases wipeO_get z with rfl | ⟨y1, y2⟩
    · exact trivial
    · rw [hg i y2]
      exact P.slot i o y1
  · obtain ⟨k1, k2, k3, k4⟩ := P.rsv a (h4 a z)
    exact ⟨k1, k2, k3, fun i y => k4 i (low y)⟩
/-- a reserved thing is changed -/
theorem Pre.mutR {c : C0} {W : Wd} {st : Ps} {σ : L2.St} {H : Hp} (P : Pre c W st σ H) {a : Addr} {u u' : HO} (hR : c.R a) (h0 : c.H0 a = none) (hu : H a = some u) (hm : mutO u = true) : Pre c W st σ (upd H a u') ∧ Fut W.φ W.F H W.φ W.F (upd H a u') := by
  obtain ⟨k1, k2, _, k4⟩ := P.rsv a hR
  have f := fut_mut W (u' := u') k1 hu hm
  have ne : ∀ {b : Addr} {o : HO}, c.H0 b = some o → b ≠ a := fun e z => by rw [z, h0] at e; cases e
  refine ⟨⟨P.hrw, ⟨P.step.cells, P.step.sub, fun b ob e n => by rw [upd_ne (ne e)]; exact P.step.keep b ob e n, fun b xs e => by rw [upd_ne (ne e)]; exact P.step.tups b xs e, fun b e => upd_dom (P.step.dom b e), P.step.ownNew, P.step.locks, P.step.ownOld⟩, P.new, ⟨fun b hb => ?_, P.base.len, fun n b x w q1 q2 q3 => ?_, P.base.apart, P.base.ownF, P.base.lN, fun b ob e => ?_⟩, P.slen, fun j x e => ?_, P.sown, P.sapart, fun b hb => ?_, P.hvw, P.own0⟩, f⟩
  · obtain ⟨w, q⟩ := P.base.fdom b hb
    exact ⟨w, f.keep b w hb q⟩
  · refine (P.base.cell n b x w q1 q2 q3).fut f fun y hy => ?_
    rw [upd_ne]
    intro z
    subst z
    exact k2 ⟨w, List.mem_of_getElem? q3, hy⟩
  · obtain ⟨q1, w, q2, q3⟩ := P.base.lF b ob e
    refine ⟨q1, w, ?_, q3⟩
    rw [upd_ne (fun z => by subst z; exact q1.elim k1 fun y => k2 y.2)]
    exact q2
  · refine (P.slot j x e).fut f fun b e1 e2 => ?_
    rw [upd_ne]
    intro z
    subst z
    exact k4 j ⟨x, e, e2, join_ref e1⟩
  · obtain ⟨q1, q2, ⟨w, q3⟩, q4⟩ := P.rsv b hb
    refine ⟨q1, q2, ?_, q4⟩
    by_cases z : b = a
    · rw [z]; exact ⟨_, upd_same⟩
    · exact ⟨w, by rw [upd_ne z]; exact q3⟩
abbrev E0k : EK := fun _ _ _ => False
/-- inside a comprehension: no error leaves it, the new list is reserved -/
def C0.blk (c : C0) (D : Addr) : C0 := { c with E := E0k, R := fun b => c.R b ∨ b = D }
theorem lk_blk {X : Cx} (c : C0) (D : Addr) : Lk X (c.blk D) := Takes.imp takes0 fun cls d σ H ⟨W, st, H1, C, fs, _, _, _, _, z⟩ => z.elim
def PXTs (X : Cx) (ifs : List Expr) (f : Tx) : Prop := ∀ c, Lk X c → PTs X ifs (tXT c f)
def xYes : Tx := fun _ st Q => Q true st
theorem ptsOf {X : Cx} {ifs : List Expr} {t t' : TT} (h : PTs X ifs t) (m : ∀ σ H Q, t' σ H Q → t σ H Q) : PTs X ifs t' := ⟨fun pins s σ H Q I q => h.run pins s σ H Q I (m σ H Q q)⟩
theorem pxts_nil {X : Cx} : PXTs X [] xYes := fun c l => ptsOf pts_nil fun σ H Q ⟨W, st, H1, Q0, hH, P, q, k⟩ => by
  subst hH
  exact k _ _ _ _ q (.refl _ _ _) P
theorem pxts_one {X : Cx} {e : Expr} {t : Tx} (h : PXT X e t) : PXTs X [e] t := fun c l => pts_one (h c l)
def lcW (tg : Tg) (tt : Tx) (f : Ex) (vs : List Nat) (Q : O → Ps → Prop) : List D → List D → Ps → Prop
  | [], acc, st => Q (.lst acc) (st.wp vs)
  | d :: ds, acc, st => tg d (st.wp vs) fun st2 => tt E0k st2 fun b st3 => if b = true then f E0k st3 fun r st4 => opt (frz st4 r) fun q => acc.length < sizeLine ∧ lcW tg tt f vs Q ds (acc ++ [q.1]) q.2 else lcW tg tt f vs Q ds acc st3
def xLc (fi : Ix) (tg : Tg) (tt : Tx) (f : Ex) (vs : List Nat) : Ox := fun E st Q => fi E st fun ds st1 => lcW tg tt f vs Q ds [] st1
theorem RepL.snoc {φ F H} {v : V} {d : D} : ∀ {vs : List V} {ds : List D}, RepL φ F H vs ds → Rep φ F H v d → RepL φ F H (vs ++ [v]) (ds ++ [d])
  | _, _, .nil, h => .cons h .nil
  | _, _, .cons a t, h => .cons a (t.snoc h)
theorem wipeO_un {ρ : List O} {i : Nat} {o : O} : ∀ {vs : List Nat}, (wipeO ρ vs)[i]? = some o → i ∈ vs → o = .un := fun h m => (wipeO_get h).elim id fun z => absurd m z.2
theorem wipe_in {σ : L2.St} {vs : List Nat} : ∀ {us : List Nat}, (∀ i ∈ us, i ∈ vs) → wipe (wipe σ us) vs = wipe σ vs
  | [], _ => rfl
  | u :: us, h => by
    show wipe ((wipe σ us).set u none) vs = _
    rw [set_wipe (h u List.mem_cons_self)]
    exact wipe_in fun i hi => h i (List.mem_cons_of_mem _ hi)
theorem Pre.ctx {c c' : C0} {W : Wd} {st : Ps} {σ : L2.St} {H : Hp} (P : Pre c W st σ H) (h1 : c'.rw = c.rw) (h2 : c'.W0 = c.W0) (h3 : c'.H0 = c.H0) (h4 : ∀ a, c'.R a → c.R a) : Pre c' W st σ H := P.wp (vs := []) rfl h1 h2 h3 h4
theorem Pre.sig {c : C0} {W : Wd} {st : Ps} {σ σ' : L2.St} {H : Hp} {vs : List Nat} (P : Pre c W (st.wp vs) σ H) (e : wipe σ' vs = wipe σ vs) : Pre c W (st.wp vs) σ' H := by
  have hg : ∀ i, i ∉ vs → σ'[i]? = σ[i]? := fun i n => by rw [← wipe_get (σ := σ') n, e, wipe_get n]
  have hlen : σ'.length = σ.length := by rw [← wipe_length σ' vs, e, wipe_length]
  have low : ∀ {i a}, slotOwns (wipeO st.ρ vs) σ' i a → slotOwns (wipeO st.ρ vs) σ i a := fun {i a} ⟨o, z1, z2, z3⟩ => by
    by_cases m : i ∈ vs
    · rw [wipeO_un z1 m] at z2
      cases z2
    · exact ⟨o, z1, z2, by rw [← hg i m]; exact z3⟩
  refine ⟨P.hrw, P.step, P.new, P.base, by rw [hlen]; exact P.slen, fun i o z => ?_, fun i a z => P.sown i a (low z), fun i j a z y => P.sapart i j a (low z) (low y), fun a z => ?_, P.hvw, P.own0⟩
  · by_cases m : i ∈ vs
    · rw [wipeO_un z m]
      exact trivial
    · rw [hg i m]
      exact P.slot i o z
  · obtain ⟨k1, k2, k3, k4⟩ := P.rsv a z
    exact ⟨k1, k2, k3, fun i y => k4 i (low y)⟩
theorem Step.updN {rw : Bool} {W W' : Wd} {H H' : Hp} {D : Addr} {o : HO} (s : Step rw W H W' H') (h : H D = none) : Step rw W H W' (upd H' D o) :=
  ⟨s.cells, s.sub, fun a u e n => by rw [upd_ne (ne_of_none e h)]; exact s.keep a u e n, fun a xs e => by rw [upd_ne (ne_of_none e h)]; exact s.tups a xs e, fun a e => upd_dom (s.dom a e), s.ownNew, s.locks, s.ownOld⟩
def gAny (c : C0) (tg : Tg) (is : List Nat) : TG := fun v σ H Q => ∃ D, tXG (c.blk D) tg is v σ H Q
def tAny (c : C0) (tt : Tx) : TT := fun σ H Q => ∃ D, tXT (c.blk D) tt σ H Q
def eAny (c : C0) (f : Ex) : TE := fun σ H Q => ∃ D, tX (c.blk D) f σ H Q
theorem blk_at {c : C0} {D : Addr} {W W' : Wd} {st : Ps} {σ : L2.St} {H H' : Hp} {o : HO} (P : Pre (c.blk D) W st σ H) (s : Step c.rw W H W' H') (h : H D = some o) : H' D = some o := s.keep D o h fun _ => (P.rsv D (.inr rfl)).2.1
theorem lc_go {c : C0} {fi : Ix} {tg : Tg} {tt : Tx} {f : Ex} {vs is : List Nat} {σ : L2.St} {H : Hp} {Q : VK} (hv : ∀ i ∈ is, i ∈ vs) (h : tO c (xLc fi tg tt f vs) σ H Q) : tLc (tXI c fi) (gAny c tg is) (tAny c tt) (eAny c f) vs σ H Q := by
  obtain ⟨W, st, H1, Q0, hH, P, q, k⟩ := h
  refine ⟨W, st, H1, _, hH, P, q, fun ds st1 W1 H2 J q1 s1 P1 go => fun D hD => ?_⟩
  obtain ⟨d1, d2⟩ := P1.lnone' hD
  obtain ⟨sD, PD, f1, f2, f3, f4, f5⟩ := P1.fresh (o := .lst []) d1
  have PB : Pre (c.blk D) W1 (st1.wp vs) σ (upd H2 D (.lst [])) := (PD.res ⟨f1, f2, ⟨_, upd_same⟩, f4⟩).wp rfl rfl rfl rfl fun _ z => z
  refine ⟨fun i m Hh => m = ds.length - i ∧ i ≤ ds.length ∧ ∃ W2 st2 H3 acc xs, Hh = lockH W2.L H3 ∧ Pre (c.blk D) W2 (st2.wp vs) σ H3 ∧ Step c.rw W1 H2 W2 H3 ∧ H3 D = some (.lst xs) ∧ RepL W2.φ W2.F H3 xs acc ∧ lcW tg tt f vs Q0 (ds.drop i) acc st2,
    ⟨ds.length, by simp, Nat.zero_le _, W1, st1, _, [], [], lock_upd d2, PB, sD, upd_same, .nil, q1⟩, ?_⟩
  rintro i m Hh ⟨rfl, hi, W2, st2, H3, acc, xs, rfl, P2, s2, hx, rx, q2⟩
  obtain ⟨g1, g2⟩ := go (c.blk D).R W2 _ σ H3 (P2.ctx rfl rfl rfl fun _ z => z) (P1.aft s2)
  by_cases hlt : i < ds.length
  · obtain ⟨g3, g4⟩ := g1 i ds[i] (List.getElem?_eq_getElem hlt)
    rw [List.drop_eq_getElem_cons hlt] at q2
    refine .inr ⟨g3, fun H' => i + 1 ≤ ds.length ∧ ∃ W2 st2 H3 acc xs, H' = lockH W2.L H3 ∧ Pre (c.blk D) W2 (st2.wp vs) σ H3 ∧ Step c.rw W1 H2 W2 H3 ∧ H3 D = some (.lst xs) ∧ RepL W2.φ W2.F H3 xs acc ∧ lcW tg tt f vs Q0 (ds.drop (i + 1)) acc st2, fun H' z => ⟨ds.length - (i + 1), by omega, rfl, z⟩, fun x H' y => ?_⟩
    obtain ⟨H4, rfl, s4, P4, r4⟩ := YD.ok P2 (g4 x H' y)
    have x4 := blk_at P2 s4 hx
    refine ⟨D, W2, st2.wp vs, H4, _, _, rfl, P4.sig (wipe_in fun _ z => z), r4, q2, fun st5 σ5 q5 P5 w5 => ?_⟩
    have e5 : wipe σ5 vs = wipe σ vs := (w5 vs hv).trans (wipe_in fun _ z => z)
    refine ⟨e5, D, W2, st5, H4, _, rfl, P5, q5, fun b st6 W6 H6 q6 s6 P6 => ?_⟩
    have x6 := blk_at P5 s6 x4
    have r6 : RepL W6.φ W6.F H6 xs acc := (rx.fut (P2.fut s4)).fut (P5.fut s6)
    cases b with
    | false => exact iteF ⟨hlt, W6, st6, H6, acc, xs, rfl, P6.wp e5.symm rfl rfl rfl fun _ z => z, (s2.trans s4).trans s6, x6, r6, q6⟩
    | true =>
      refine iteT ⟨D, W6, st6, H6, _, rfl, P6, q6, fun r st7 v W7 H7 q7 s7 P7 rv => ?_⟩
      obtain ⟨⟨y, st8⟩, e8, hl, q8⟩ := opt_ex q7
      obtain ⟨W8, s8, P8, r8, eL⟩ := frz_ok P7 e8 rv
      have x7 := blk_at P6 s7 x6
      have r7 : RepL W8.φ W8.F H7 xs acc := (r6.fut (P6.fut s7)).fut (P7.fut s8)
      obtain ⟨P9, f9⟩ := P8.mutR (u' := .lst (xs ++ [v])) (.inr rfl) f3 x7 rfl
      refine ⟨xs, P7.nol x7 rfl, by rw [rx.length]; exact hl, hlt, W8, st8, upd H7 D (.lst (xs ++ [v])), acc ++ [y], xs ++ [v], ?_, P9.wp e5.symm rfl rfl rfl fun _ z => z, ((((s2.trans s4).trans s6).trans s7).trans s8).updN d1, upd_same, (r7.fut f9).snoc (r8.fut f9), q8⟩
      rw [← eL]
      exact lock_upd (P8.lown (P8.rsv D (.inr rfl)).1 (P8.rsv D (.inr rfl)).2.1)
  · have e : i = ds.length := by omega
    rw [e, List.drop_length] at q2
    obtain ⟨k1, k2, k3, k4⟩ := P2.rsv D (.inr rfl)
    exact .inl ⟨g2 i (by omega), k _ _ _ _ _ q2 (s1.trans s2) (P2.ctx rfl rfl rfl fun _ z => .inl z) ⟨D, rfl, ⟨xs, hx, rx⟩, k1, k2, f3, k4, f5⟩⟩
theorem PG.orr {X : Cx} {e : Expr} {α : Type} {t : α → TG} (h : ∀ x, PG X e (t x)) : PG X e (fun v σ H Q => ∃ x, t x v σ H Q) := ⟨fun pins s σ H v u Q I r ⟨x, q⟩ => (h x).run pins s σ H v u Q I r q⟩
theorem PTs.orr {X : Cx} {es : List Expr} {α : Type} {t : α → TT} (h : ∀ x, PTs X es (t x)) : PTs X es (fun σ H Q => ∃ x, t x σ H Q) := ⟨fun pins s σ H Q I ⟨x, q⟩ => (h x).run pins s σ H Q I q⟩
theorem PE.orr {X : Cx} {e : Expr} {α : Type} {t : α → TE} (h : ∀ x, PE X e (t x)) : PE X e (fun σ H Q => ∃ x, t x σ H Q) := ⟨fun pins s σ H Q I ⟨x, q⟩ => (h x).run pins s σ H Q I q⟩
theorem pg_any {X : Cx} {e : Expr} {tg : Tg} {is : List Nat} (c : C0) (h : PXG X e tg is) : PG X e (gAny c tg is) := PG.orr fun D => h _ (lk_blk c D)
theorem pts_any {X : Cx} {es : List Expr} {tt : Tx} (c : C0) (h : PXTs X es tt) : PTs X es (tAny c tt) := PTs.orr fun D => h _ (lk_blk c D)
theorem pe_any {X : Cx} {e : Expr} {f : Ex} (c : C0) (h : PX X e f) : PE X e (eAny c f) := PE.orr fun D => h _ (lk_blk c D)
theorem po_lc {X : Cx} {elt tge iter : Expr} {ifs : List Expr} {scope : Scope} {own : List (Str × Nat)} {pos : Pos} {fi : Ix} {tg : Tg} {is : List Nat} {tt : Tx} {f : Ex} (hc : X.calm = true) (hN : X.N.Nodup) (hi : PXI X tge iter fi) (ok : BlkOk X.N X.env.scope scope own) (hv : ∀ i ∈ is, i ∈ own.map (·.2))
    (hg : ∀ (s : Shared) (H : Hp) (C : Addr) (cl : List (Str × Addr)) (fp : List Addr), PXG (X.blk s H scope (compEnvC scope cl C X.env) fp) tge tg is) (ht : ∀ (s : Shared) (H : Hp) (C : Addr) (cl : List (Str × Addr)) (fp : List Addr), PXTs (X.blk s H scope (compEnvC scope cl C X.env) fp) ifs tt)
    (he : ∀ (s : Shared) (H : Hp) (C : Addr) (cl : List (Str × Addr)) (fp : List Addr), PX (X.blk s H scope (compEnvC scope cl C X.env) fp) elt f) (hs : ∀ x, foldedSetIterable iter X.env x = pure x := by intro _; rfl) :
    PO X (.ListComp elt [⟨tge, iter, ifs, 0⟩] scope pos) (xLc fi tg tt f (own.map (·.2))) := fun c l =>
  peOf (pe_lc hc hN (hi c l) ok (fun s H C cl fp => pg_any c (hg s H C cl fp)) (fun s H C cl fp => pts_any c (ht s H C cl fp)) (fun s H C cl fp => pe_any c (he s H C cl fp)) hs) fun σ H Q h => lc_go hv h
theorem pxs_setLc {X : Cx} {i : Nat} {elt tge iter : Expr} {ifs : List Expr} {vs : List Nat} {s : Stmt} {fi : Ix} {tg : Tg} {is : List Nat} {tt : Tx} {f : Ex} (hv : ∀ i ∈ is, i ∈ vs) (hi : PXI X tge iter fi)
    (h : ∀ (c : C0), PI X tge iter (tXI c fi) → PS X s (tAsg (tLc (tXI c fi) (gAny c tg is) (tAny c tt) (eAny c f) vs) (gName i))) : PXS X s (sSet i (xLc fi tg tt f vs)) := fun c l => psOf (h c (hi c l)) fun D σ H ⟨W, st, H1, K, hH, P, ek, q⟩ =>
  lc_go hv ⟨W, st, H1, _, hH, P, q, fun o st' v W' H2 q0 s P' ov => by
    obtain ⟨W3, s3, P3, r, eL⟩ := OV.plain P' ov
    show D.nx _ (lockH W'.L H2)
    rw [← eL]
    exact ek.1 _ _ _ _ q0 (P3.set i r) (P.aft (s.trans s3))⟩
theorem pxs_setLcO {X : Cx} {i : Nat} {elt tge iter : Expr} {ifs : List Expr} {vs : List Nat} {s : Stmt} {fi : Ix} {tg : Tg} {is : List Nat} {tt : Tx} {f : Ex} (hv : ∀ i ∈ is, i ∈ vs) (hi : PXI X tge iter fi)
    (h : ∀ (c : C0), PI X tge iter (tXI c fi) → PS X s (tAsg (tLc (tXI c fi) (gAny c tg is) (tAny c tt) (eAny c f) vs) (gName i))) : PXS X s (sSetO i (xLc fi tg tt f vs)) := fun c l => psOf (h c (hi c l)) fun D σ H ⟨W, st, H1, K, hH, P, ek, q⟩ =>
  lc_go hv ⟨W, st, H1, _, hH, P, q, fun o st' v W' H2 q0 s P' ov => ek.1 _ _ _ _ q0 (OV.set P' i ov) (P.aft s)⟩
end Q
namespace Q
open PySem L2 PySem.Spec PyProof.Rows
section
variable {X : Cx}
/-! ### len -/
theorem call_lenR : CallR X (.builtin "len") (fun xs H Q => ∃ a kvs, xs = [.ref a] ∧ Rd H a (.dK kvs) ∧ Q (.int (kvs.length : Nat)) H) := by
  intro pins s σ H xs us Q I r h
  obtain ⟨a, kvs, rfl, ha, q⟩ := h
  obtain ⟨u, rfl, ru⟩ := vals1 r
  cases ru
  exact d_len I ha fun t s' I' => ⟨.int kvs.length, H, I', ⟨t, rfl⟩, q⟩
theorem call_lenRT : CallR X (.builtin "len") (fun xs H Q => ∃ a kvs, xs = [.ref a] ∧ Rd H a (.dT kvs) ∧ Q (.int (kvs.length : Nat)) H) := by
  intro pins s σ H xs us Q I r h
  obtain ⟨a, kvs, rfl, ha, q⟩ := h
  obtain ⟨u, rfl, ru⟩ := vals1 r
  cases ru
  obtain ⟨z, hd, ys, rel, dd⟩ := dt_rd I.hok ha
  have hl : kvs.length = ys.length := Paired.length rel
  refine call_len_dictH hd dd (by rw [← hl]; rw [sizeLine_eq] at z; omega) ?_
  rw [← hl]
  exact ⟨.int ((kvs.length : Nat) : Int), H, I.tok _, ⟨_, rfl⟩, q⟩
def rLenA (K : PySem.W.Frag) : List V → Hp → VK → Prop := fun xs H Q => (∃ x n, xs = [x] ∧ LenV K x H n ∧ Q (.int (n : Nat)) H) ∨ (∃ a kvs, xs = [.ref a] ∧ Rd H a (.dK kvs) ∧ Q (.int (kvs.length : Nat)) H) ∨ ∃ a kvs, xs = [.ref a] ∧ Rd H a (.dT kvs) ∧ Q (.int (kvs.length : Nat)) H
theorem cLen (K : PySem.W.Frag) (h : X.K = K := by rfl) : CallR X (.builtin "len") (rLenA K) := by
  subst h
  exact call_len.or (call_lenR.or call_lenRT)
def lenG : Gc := fun ds J => match ds with
  | [.str s] => s.length ≤ sizeLine ∧ J (.d (.int s.length))
  | [.lst xs] => J (.d (.int xs.length))
  | [.tup xs] => J (.d (.int xs.length))
  | [.dK xs] => J (.d (.int xs.length))
  | [.dT xs] => J (.d (.int xs.length))
  | [.scr xs] => J (.d (.int xs.length))
  | _ => False
theorem rd_lock {c : C0} {W : Wd} {st : Ps} {σ : L2.St} {H : Hp} (P : Pre c W st σ H) {a : Addr} {u : HO} (h : Rd H a u) (hd : dictO u = false) : Rd (lockH W.L H) a u := by
  rcases h with h | ⟨o, h⟩
  · exact .inl (P.nol h hd)
  · exact .inr ⟨o, P.nol h rfl⟩
theorem g_len (K : PySem.W.Frag) : CallG (rLenA K) lenG := fun c W st σ H vs ds Q J P t g k => by
  unfold lenG at g
  split at g
  · obtain ⟨v, rfl, t1⟩ := tops_1 t
    cases t1
    exact .inl ⟨_, _, rfl, ⟨g.1, rfl⟩, (k _ g.2).d P (.int _)⟩
  · obtain ⟨v, rfl, t1⟩ := tops_1 t
    cases t1 with
    | lst h1 r1 => exact .inl ⟨_, _, rfl, .inl ⟨_, SqL.of (P.nol h1 rfl), r1.length.symm⟩, (k _ g).d P (.int _)⟩
  · obtain ⟨v, rfl, t1⟩ := tops_1 t
    cases t1 with
    | tup h1 r1 => exact .inl ⟨_, _, rfl, .inr ⟨_, SqT.of (P.nol h1 rfl), r1.length.symm⟩, (k _ g).d P (.int _)⟩
  · obtain ⟨v, rfl, t1⟩ := tops_1 t
    cases t1 with
    | dK h1 r1 => exact .inr (.inl ⟨_, _, rfl, lock_rd h1, by rw [r1.length]; exact (k _ g).d P (.int _)⟩)
  · obtain ⟨v, rfl, t1⟩ := tops_1 t
    cases t1 with
    | dT h1 r1 => exact .inr (.inr ⟨_, _, rfl, lock_rd h1, by rw [r1.length]; exact (k _ g).d P (.int _)⟩)
  · obtain ⟨v, rfl, t1⟩ := tops_1 t
    cases t1 with
    | scr h1 => exact .inl ⟨_, _, rfl, .inl ⟨_, .inl (rd_lock P h1 rfl), by rw [List.length_map]⟩, (k _ g).d P (.int _)⟩
  · exact g.elim
/-! ### list(..), tuple(..) of a list or a tuple -/
def listG : Gc := fun ds J => match ds with
  | [.lst xs] => J (.lst xs)
  | [.tup xs] => J (.lst xs)
  | _ => False
theorem g_list (K : PySem.W.Frag) : CallG (rListQ K) listG := fun c W st σ H vs ds Q J P t g k => by
  unfold listG at g
  split at g
  · obtain ⟨v, rfl, t1⟩ := tops_1 t
    cases t1 with
    | lst h1 r1 => exact ⟨_, _, rfl, .inl (SqL.of (P.nol h1 rfl)), (k _ g).new P rfl fun p hp => ⟨_, upd_same, r1.fut (fut_new W hp)⟩⟩
  · obtain ⟨v, rfl, t1⟩ := tops_1 t
    cases t1 with
    | tup h1 r1 => exact ⟨_, _, rfl, .inr (SqT.of (P.nol h1 rfl)), (k _ g).new P rfl fun p hp => ⟨_, upd_same, r1.fut (fut_new W hp)⟩⟩
  · exact g.elim
def tupleG : Gc := fun ds J => match ds with
  | [.lst xs] => J (.d (.tup xs))
  | [.tup xs] => J (.d (.tup xs))
  | _ => False
theorem g_tuple (K : PySem.W.Frag) : CallG (rTupleQ K) tupleG := fun c W st σ H vs ds Q J P t g k => by
  unfold tupleG at g
  split at g
  · obtain ⟨v, rfl, t1⟩ := tops_1 t
    cases t1 with
    | lst h1 r1 => exact ⟨_, _, rfl, .inl ⟨SqL.of (P.nol h1 rfl), (k _ g).newT P r1⟩⟩
  · obtain ⟨v, rfl, t1⟩ := tops_1 t
    cases t1 with
    | tup h1 r1 => exact ⟨_, _, rfl, .inr ⟨SqT.of (P.nol h1 rfl), (k _ g).d P (.tup h1 r1)⟩⟩
  · exact g.elim
/-! ### all, any, sum -/
def blsD : List D → Option (List Bool)
  | [] => some []
  | .bl b :: ds => match blsD ds with
    | some bs => some (b :: bs)
    | none => none
  | _ => none
theorem bls_rep {φ F H} : ∀ {ds : List D} {vs : List V} {bs : List Bool}, RepL φ F H vs ds → blsD ds = some bs → vs = bs.map V.bl
  | [], _, _, h, e => by cases h; cases e; rfl
  | d :: ds, _, bs, h, e => by
    cases h with
    | cons h1 h2 =>
      cases d with
      | bl b =>
        unfold blsD at e
        cases q : blsD ds with
        | none => rw [q] at e; cases e
        | some bs' =>
          rw [q] at e
          cases e
          cases h1
          rw [bls_rep h2 q]
          rfl
      | _ => cases e
def allG : Gc := fun ds J => match ds with
  | [.lst xs] => opt (blsD xs) fun bs => J (.d (.bl (bs.all id)))
  | _ => False
theorem g_all (K : PySem.W.Frag) : CallG (rAll K) allG := fun c W st σ H vs ds Q J P t g k => by
  unfold allG at g
  split at g
  · obtain ⟨bs, e, g⟩ := opt_ex g
    obtain ⟨v, rfl, t1⟩ := tops_1 t
    cases t1 with
    | lst h1 r1 =>
      have := bls_rep r1 e
      subst this
      exact ⟨_, bs, rfl, SqL.of (P.nol h1 rfl), (k _ g).d P (.bl _)⟩
  · exact g.elim
def intsD : List D → Option (List Int)
  | [] => some []
  | .int b :: ds => match intsD ds with
    | some bs => some (b :: bs)
    | none => none
  | _ => none
theorem ints_rep {φ F H} : ∀ {ds : List D} {vs : List V} {bs : List Int}, RepL φ F H vs ds → intsD ds = some bs → vs = bs.map V.int
  | [], _, _, h, e => by cases h; cases e; rfl
  | d :: ds, _, bs, h, e => by
    cases h with
    | cons h1 h2 =>
      cases d with
      | int b =>
        unfold intsD at e
        cases q : intsD ds with
        | none => rw [q] at e; cases e
        | some bs' =>
          rw [q] at e
          cases e
          cases h1
          rw [ints_rep h2 q]
          rfl
      | _ => cases e
/-! ### int(..), abs(..) -/
def intG : Gc := fun ds J => match ds with
  | [.int i] => J (.d (.int i))
  | [.bl b] => J (.d (.int (if b then 1 else 0)))
  | _ => False
/-! ### a[i] -/
def ixD : D → D → Option O
  | .lst xs, .int i => (atI xs i).map O.d
  | .tup xs, .int i => (atI xs i).map O.d
  | .str z, .int i => if z.length ≤ sizeLine then (atI z.cps.toList i).map fun c => .d (.str ⟨#[c]⟩) else none
  | _, _ => none
def rIxA (K : PySem.W.Frag) : V → V → Hp → VK → Prop := fun x y H Q => rIxL K x y H Q ∨ rIxT K x y H Q ∨ rIxS x y H Q
theorem ixA (K : PySem.W.Frag) (h : X.K = K := by rfl) : IxR X (rIxA K) := by
  subst h
  exact ix_list.or (ix_tup.or ix_str)
theorem RepL.at {φ F H} {vs : List V} {ds : List D} {i : Int} {d : D} (r : RepL φ F H vs ds) (e : atI ds i = some d) : ∃ v, atI vs i = some v ∧ Rep φ F H v d := by
  unfold atI at e ⊢
  rw [r.length]
  cases q : ixN ds.length i with
  | none => rw [q] at e; cases e
  | some j =>
    rw [q] at e
    exact r.get e
theorem g_ix (K : PySem.W.Frag) : OpG (rIxA K) ixD := fun c W st σ H v1 v2 d1 d2 o Q P t1 t2 e h => by
  unfold ixD at e
  split at e
  · cases t2
    cases t1 with
    | lst h1 r1 =>
      obtain ⟨d, e1, rfl⟩ := Option.map_eq_some_iff.mp e
      obtain ⟨v, e2, r2⟩ := r1.at e1
      exact .inl ⟨_, _, _, v, rfl, rfl, SqL.of (P.nol h1 rfl), e2, h.d P r2⟩
  · cases t2
    cases t1 with
    | tup h1 r1 =>
      obtain ⟨d, e1, rfl⟩ := Option.map_eq_some_iff.mp e
      obtain ⟨v, e2, r2⟩ := r1.at e1
      exact .inr (.inl ⟨_, _, _, v, rfl, rfl, SqT.of (P.nol h1 rfl), e2, h.d P r2⟩)
  · cases t1
    cases t2
    split at e
    · rename_i hl
      obtain ⟨d, e1, rfl⟩ := Option.map_eq_some_iff.mp e
      exact .inr (.inr ⟨_, _, d, rfl, rfl, hl, e1, h.d P (.str _)⟩)
    · cases e
  · cases e
/-! ### a[lo:hi] -/
abbrev Px := EK → Ps → (Option Int → Ps → Prop) → Prop
def pNo : Px := fun _ st Q => Q none st
def pSo (f : Ex) : Px := fun E st Q => f E st fun r st1 => match r with
  | .v (.int i) => Q (some i) st1
  | _ => False
def tXP (c : C0) (f : Px) : TO := fun σ H Q => ∃ W st H1 Q0, H = lockH W.L H1 ∧ Pre c W st σ H1 ∧ f c.E st Q0 ∧ ∀ i st' W' H2, Q0 i st' → Step c.rw W H1 W' H2 → Pre c W' st' σ H2 → Q i (lockH W'.L H2)
def PXP (X : Cx) (e : Option Expr) (f : Px) : Prop := ∀ c, Lk X c → L2.PO X e (tXP c f)
theorem poOf {e : Option Expr} {t t' : TO} (h : L2.PO X e t) (m : ∀ σ H Q, t' σ H Q → t σ H Q) : L2.PO X e t' := ⟨fun pins s σ H Q I q => h.run pins s σ H Q I (m σ H Q q)⟩
theorem pxp_no : PXP X none pNo := fun c l => poOf L2.po_none fun σ H Q ⟨W, st, H1, Q0, hH, P, q, k⟩ => by
  subst hH
  exact k _ _ _ _ q (.refl _ _ _) P
theorem pxp_so {e : Expr} {f : Ex} (h : PX X e f) : PXP X (some e) (pSo f) := fun c l => poOf (L2.po_some (h c l)) fun σ H Q ⟨W, st, H1, Q0, hH, P, q, k⟩ => ⟨W, st, H1, _, hH, P, q, fun r st1 v W1 H2 q1 s1 P1 rv => by
  split at q1
  · rename_i i
    have rv' : Rp W1 H2 v (.int i) := rv
    cases rv'
    exact ⟨i, rfl, k _ _ _ _ q1 s1 P1⟩
  · exact q1.elim⟩
def cutD {α : Type} (xs : List α) (lo hi : Option Int) : List α := (xs.drop (HT.sIx xs.length 0 lo)).take (HT.sIx xs.length xs.length hi - HT.sIx xs.length 0 lo)
def slD : D → Option Int → Option Int → Option O
  | .lst xs, lo, hi => some (.lst (cutD xs lo hi))
  | .tup xs, lo, hi => some (.d (.tup (cutD xs lo hi)))
  | _, _, _ => none
def rSlAny (K : PySem.W.Frag) : V → Option Int → Option Int → Hp → VK → Prop := fun x lo hi H Q => rSlL K x lo hi H Q ∨ rSlA K x lo hi H Q
theorem slA (K : PySem.W.Frag) (h : X.K = K := by rfl) : SlR X (rSlAny K) := by
  subst h
  exact sl_list.or sl_tupA
theorem RepL.drop {φ F H} : ∀ (n : Nat) {vs : List V} {ds : List D}, RepL φ F H vs ds → RepL φ F H (vs.drop n) (ds.drop n)
  | 0, _, _, h => h
  | n + 1, _, _, .nil => .nil
  | n + 1, _, _, .cons _ t => t.drop n
theorem RepL.take {φ F H} : ∀ (n : Nat) {vs : List V} {ds : List D}, RepL φ F H vs ds → RepL φ F H (vs.take n) (ds.take n)
  | 0, _, _, h => .nil
  | n + 1, _, _, .nil => .nil
  | n + 1, _, _, .cons h t => .cons h (t.take n)
theorem RepL.cut {φ F H} {vs : List V} {ds : List D} (r : RepL φ F H vs ds) (lo hi : Option Int) : RepL φ F H (cutV vs lo hi) (cutD ds lo hi) := by
  unfold cutV cutD
  rw [r.length]
  exact (r.drop _).take _
def xSl (f : Ex) (lo hi : Px) : Ox := fun E st Q => f E st fun r st1 => lo E st1 fun i st2 => hi E st2 fun j st3 => opt (look st3 r) fun d => opt (slD d i j) fun o => Q o st3
theorem po_sl {e ee : Expr} {lo hi : Option Expr} {f : Ex} {pl ph : Px} (K : PySem.W.Frag) (h : ∀ {te : TE} {tl th : TO}, PE X e te → L2.PO X lo tl → L2.PO X hi th → PE X ee (tSl (rSlAny K) te tl th)) (he : PX X e f) (hl : PXP X lo pl) (hh : PXP X hi ph) : PO X ee (xSl f pl ph) := fun c l => peOf (h (he c l) (hl c l) (hh c l)) fun σ H Q ⟨W, st, H1, Q0, hH, P, q, k⟩ =>
  ⟨W, st, H1, _, hH, P, q, fun r st1 v W1 H2 q1 s1 P1 rv => ⟨W1, st1, H2, _, rfl, P1, q1, fun i st2 W2 H3 q2 s2 P2 => ⟨W2, st2, H3, _, rfl, P2, q2, fun j st3 W3 H4 q3 s3 P3 => by
    obtain ⟨d, e1, q3⟩ := opt_ex q3
    obtain ⟨o, e2, q3⟩ := opt_ex q3
    have t := P3.top ((rv.step P1 s2).step P2 s3) e1
    have hk : Res c W3 st3 σ H4 o Q := fun v' W' H5 s5 P5 ov => k _ _ _ _ _ q3 (((s1.trans s2).trans s3).trans s5) P5 ov
    unfold slD at e2
    split at e2
    · cases e2
      cases t with
      | lst h1 r1 => exact .inl ⟨_, _, rfl, SqL.of (P3.nol h1 rfl), hk.new P3 rfl fun p hp => ⟨_, upd_same, (r1.cut i j).fut (fut_new W3 hp)⟩⟩
    · cases e2
      cases t with
      | tup h1 r1 =>
        refine .inr ⟨_, _, rfl, SqT.of (P3.nol h1 rfl), fun z => hk.d P3 (.tup h1 ?_), fun z => hk.newT P3 (r1.cut i j)⟩
        have := r1.cut i j
        unfold cutV at this
        rw [z.1, z.2, List.drop_zero, Nat.sub_zero, List.take_length] at this
        exact this
    · cases e2⟩⟩⟩
/-! ### a chain of two comparisons -/
def xCh (g g' : D → D → Option O) (f1 f2 f3 : Ex) : Ox := fun E st Q => f1 E st fun r1 st1 => f2 E st1 fun r2 st2 => opt (look st2 r1) fun d1 => opt (look st2 r2) fun d2 => opt (g d1 d2) fun o => opt (isB o) fun b => if b = true then f3 E st2 fun r3 st3 => opt (look st3 r2) fun d2' => opt (look st3 r3) fun d3 => opt (g' d2' d3) fun o' => Q o' st3 else Q (.d (.bl false)) st2
theorem chain_go {r r' : V → V → Hp → VK → Prop} {g g' : D → D → Option O} {f1 f2 f3 : Ex} (hr : OpG r g) (hr' : OpG r' g') {c : C0} {σ : L2.St} {H : Hp} {Q : VK} (h : tO c (xCh g g' f1 f2 f3) σ H Q) : tChain r r' (tX c f1) (tX c f2) (tX c f3) σ H Q := by
  obtain ⟨W, st, H1, Q0, hH, P, q, k⟩ := h
  refine ⟨W, st, H1, _, hH, P, q, fun r1 st1 v1 W1 H2 q1 s1 P1 rv1 => ⟨W1, st1, H2, _, rfl, P1, q1, fun r2 st2 v2 W2 H3 q2 s2 P2 rv2 => ?_⟩⟩
  obtain ⟨d1, e1, q2⟩ := opt_ex q2
  obtain ⟨d2, e2, q2⟩ := opt_ex q2
  obtain ⟨o, e3, q2⟩ := opt_ex q2
  obtain ⟨b, e4, q2⟩ := opt_ex q2
  refine hr c W2 st2 σ H3 v1 v2 d1 d2 o _ P2 (P2.top (rv1.step P1 s2) e1) (P2.top rv2 e2) e3 fun v W3 H4 s4 P4 ov => ⟨b, ov_bl ov e4, ?_⟩
  cases b with
  | false => exact iteF (k _ _ _ _ _ q2 ((s1.trans s2).trans s4) P4 (.bl false : Rp W3 H4 _ (.bl false)))
  | true =>
    refine iteT ⟨W3, st2, H4, _, rfl, P4, q2, fun r3 st3 v3 W5 H5 q5 s5 P5 rv5 => ?_⟩
    obtain ⟨d2', e6, q5⟩ := opt_ex q5
    obtain ⟨d3, e7, q5⟩ := opt_ex q5
    obtain ⟨o', e8, q5⟩ := opt_ex q5
    exact hr' c W5 st3 σ H5 v2 v3 d2' d3 o' _ P5 (P5.top ((rv2.step P2 s4).step P4 s5) e6) (P5.top rv5 e7) e8 fun v W' H6 s6 P6 ov => k _ _ _ _ _ q5 ((((s1.trans s2).trans s4).trans s5).trans s6) P6 ov
theorem po_ch {a b d ee : Expr} {r r' : V → V → Hp → VK → Prop} {g g' : D → D → Option O} {f1 f2 f3 : Ex} (hr : OpG r g) (hr' : OpG r' g') (h : ∀ {t1 t2 t3 : TE}, PE X a t1 → PE X b t2 → PE X d t3 → PE X ee (tChain r r' t1 t2 t3)) (h1 : PX X a f1) (h2 : PX X b f2) (h3 : PX X d f3) : PO X ee (xCh g g' f1 f2 f3) :=
  fun c l => peOf (h (h1 c l) (h2 c l) (h3 c l)) fun σ H Q q => chain_go hr hr' q
theorem pxt_ch {a b d ee : Expr} {r r' : V → V → Hp → VK → Prop} {g g' : D → D → Option O} {f1 f2 f3 : Ex} (hr : OpG r g) (hr' : OpG r' g') (h : ∀ {t1 t2 t3 : TE}, PE X a t1 → PE X b t2 → PE X d t3 → PT X ee (tTest (tChain r r' t1 t2 t3))) (h1 : PX X a f1) (h2 : PX X b f2) (h3 : PX X d f3) : PXT X ee (xTO (xCh g g' f1 f2 f3)) :=
  fun c l => ptOf (h (h1 c l) (h2 c l) (h3 c l)) fun σ H Q ⟨W, st, H1, Q0, hH, P, q, k⟩ => chain_go hr hr' ⟨W, st, H1, _, hH, P, q, fun o st1 v W1 H2 q1 s1 P1 ov => by
    obtain ⟨d, e1, q1⟩ := opt_ex q1
    exact ⟨d, ov_bl ov e1, k _ _ _ _ q1 s1 P1⟩⟩
end
end Q
namespace Q
open PySem L2 PySem.Spec PyProof.Rows
section
variable {X : Cx}
/-! ### isinstance -/
/-- a class whose instances isinstance can be asked of -/
structure InsT (K : PySem.W.Frag) (C : Addr) : Prop where
  cl : Cls K C
  ha : PySem.W.findIn K (.ref C) "__class__" = some (some (.builtin "object.__class__"))
  hn : PySem.W.specialIn K (.builtin "object.__class__") "__get__" = some (some (.builtin "getset_descriptor.__get__"))
  ht : PySem.W.takesIn K (.builtin "object.__class__") = some true
  hm : PySem.W.mroIn K C (.type "object") = some true
def tyG (K : PySem.W.Frag) (d : D) (J : Value → Prop) : Prop := match d with
  | .non => J (.type "NoneType")
  | .bl _ => J (.type "bool")
  | .int _ => J (.type "int")
  | .str _ => J (.type "str")
  | .byt _ => J (.type "bytes")
  | .lst _ => J (.type "list")
  | .tup _ => J (.type "tuple")
  | .dK _ => J (.type "dict")
  | .ins C _ => InsT K C ∧ J (.ref C)
  | _ => False
def clsG : D → Option Value
  | .ty n => some (.type n)
  | .cls a => some (.ref a)
  | _ => none
def clssG : List D → Option (List Value)
  | [] => some []
  | d :: ds => match clsG d, clssG ds with
    | some u, some us => some (u :: us)
    | _, _ => none
def isiG (K : PySem.W.Frag) : Gc := fun ds J => match ds with
  | [x, .tup cs] => tyG K x fun t => opt (clssG cs) fun us => opt (PySem.W.kitAny K t us) fun b => J (.d (.bl b))
  | [x, c] => tyG K x fun t => opt (clsG c) fun u => opt (PySem.W.kitOne K t u) fun b => J (.d (.bl b))
  | _ => False
def rIsiA (K : PySem.W.Frag) : List V → Hp → VK → Prop := fun xs H Q => rIsi K xs H Q ∨ rIsiT K xs H Q
theorem cIsi (K : PySem.W.Frag) (h : X.K = K := by rfl) : CallR X (.builtin "isinstance") (rIsiA K) := by
  subst h
  exact call_isi.or call_isiT
theorem ty_ok {c : C0} {W : Wd} {st : Ps} {σ : L2.St} {H : Hp} {K : PySem.W.Frag} (P : Pre c W st σ H) {v : V} {d : D} {J : Value → Prop} (t : Top W.φ W.F H v d) (g : tyG K d J) : ∃ ty, TyX K (lockH W.L H) v ty ∧ J ty := by
  cases t with
  | non => exact ⟨_, .base .non, g⟩
  | bl b => exact ⟨_, .base (.bl b), g⟩
  | int b => exact ⟨_, .base (.int b), g⟩
  | str b => exact ⟨_, .base (.str b), g⟩
  | byt b => exact ⟨_, .byt b, g⟩
  | lst h1 _ => exact ⟨_, .base (.lst (P.nol h1 rfl)), g⟩
  | tup h1 _ => exact ⟨_, .base (.tup (P.nol h1 rfl)), g⟩
  | dK h1 _ =>
    rcases lock_rd (L := W.L) h1 with z | ⟨o, z⟩
    · exact ⟨_, .base (.dK z), g⟩
    · exact ⟨_, .fDict z, g⟩
  | ins h1 _ => exact ⟨_, .base (.ins (P.nol h1 rfl) g.1.cl g.1.ha g.1.hn g.1.ht g.1.hm), g.2⟩
  | ty _ => exact g.elim
  | cls _ => exact g.elim
  | cell _ => exact g.elim
  | rows _ => exact g.elim
  | scr _ => exact g.elim
  | exc _ _ _ => exact g.elim
  | dT _ _ => exact g.elim
theorem cls_ok {φ F H} {v : V} {d : D} {u : Value} (t : Top φ F H v d) (e : clsG d = some u) : ClsV v u := by
  cases t with
  | ty n => cases e; exact .ty n
  | cls a => cases e; exact .own a
  | _ => cases e
theorem clss_ok {φ F H} : ∀ {vs : List V} {ds : List D} {us : List Value}, RepL φ F H vs ds → clssG ds = some us → Paired ClsV vs us
  | _, _, _, .nil, e => by cases e; exact .nil
  | _, _, _, .cons (d := d) (ds := ds) h t, e => by
    unfold clssG at e
    cases q1 : clsG d with
    | none => rw [q1] at e; cases e
    | some u =>
      cases q2 : clssG ds with
      | none => rw [q1, q2] at e; cases e
      | some us =>
        rw [q1, q2] at e
        cases e
        exact .cons (cls_ok h.top q1) (clss_ok t q2)
theorem g_isi (K : PySem.W.Frag) : CallG (rIsiA K) (isiG K) := fun c W st σ H vs ds Q J P t g k => by
  unfold isiG at g
  split at g
  · obtain ⟨v, u, rfl, t1, t2⟩ := tops_2 t
    obtain ⟨ty, h1, g⟩ := ty_ok P t1 g
    obtain ⟨us, e1, g⟩ := opt_ex g
    obtain ⟨b, e2, g⟩ := opt_ex g
    cases t2 with
    | tup h2 r2 => exact .inr ⟨_, _, _, _, us, b, rfl, P.nol h2 rfl, clss_ok r2 e1, h1, e2, (k _ g).d P (.bl _)⟩
  · obtain ⟨v, u, rfl, t1, t2⟩ := tops_2 t
    obtain ⟨ty, h1, g⟩ := ty_ok P t1 g
    obtain ⟨us, e1, g⟩ := opt_ex g
    obtain ⟨b, e2, g⟩ := opt_ex g
    exact .inl ⟨_, _, _, us, b, rfl, cls_ok t2 e1, h1, e2, (k _ g).d P (.bl _)⟩
  · exact g.elim
/-! ### fields -/
structure FldOk (K : PySem.W.Frag) (C : Addr) (f : Str) : Prop where
  cl : Cls K C
  no : NoAttr K C f
def fldG (K : PySem.W.Frag) (f : Str) : List Cell → D → (O → Prop) → Prop := fun S d J => match d with
  | .ins C fs => FldOk K C f ∧ opt (fs.lookup f) fun x => J (.d x)
  | .cell n => match S[n]? with
    | some (.db _ C sch _) => FldOk K C f ∧ ((f = "own_schema" ∧ J (.d sch)) ∨ (f = "own_rows" ∧ J (.d (.rows n))))
    | _ => False
  | _ => False
def rFld (K : PySem.W.Frag) (f : Str) : V → Hp → VK → Prop := fun x H Q => ∃ a C dx fs v, x = .ref a ∧ H a = some (.ins C dx fs) ∧ Cls K C ∧ NoAttr K C f ∧ fs.lookup f = some v ∧ Q v H
theorem RepF.lookup {φ F H} {f : Str} : ∀ {vs : List (Str × V)} {ds : List (Str × D)} {d : D}, RepF φ F H vs ds → ds.lookup f = some d → ∃ v, vs.lookup f = some v ∧ Rep φ F H v d
  | _, _, _, .nil, e => by cases e
  | _, _, _, .cons (k := k) h t, e => by
    rw [List.lookup_cons] at e ⊢
    cases q : f == k with
    | true => rw [q] at e; cases e; exact ⟨_, rfl, h⟩
    | false => rw [q] at e; exact t.lookup e
theorem g_fld (K : PySem.W.Frag) (f : Str) : UnG (rFld K f) (fldG K f) := fun c W st σ H v d Q J P t g k => by
  unfold fldG at g
  split at g
  · obtain ⟨ok, g⟩ := g
    obtain ⟨x, e, g⟩ := opt_ex g
    cases t with
    | ins h1 r1 =>
      obtain ⟨y, e1, r2⟩ := r1.lookup e
      exact ⟨_, _, _, _, y, rfl, P.nol h1 rfl, ok.cl, ok.no, e1, (k _ g).d P r2⟩
  · split at g
    · rename_i n _ x0 C sch rows hS
      obtain ⟨ok, g⟩ := g
      cases t with
      | cell e =>
        have hl := P.base.len
        have hn := (List.getElem?_eq_some_iff.mp e).1
        obtain ⟨dx, vs, kvs, ts, _, _, h2, h3, _⟩ := P.base.cell n _ _ _ e hS (List.getElem?_eq_getElem (by omega))
        rcases g with ⟨rfl, g⟩ | ⟨rfl, g⟩
        · exact ⟨_, _, _, _, vs, rfl, P.nol h2 rfl, ok.cl, ok.no, rfl, (k _ g).d P h3⟩
        · exact ⟨_, _, _, _, _, rfl, P.nol h2 rfl, ok.cl, ok.no, rfl, (k _ g).d P (.rows e)⟩
    · exact g.elim
  · exact g.elim
/-! ### d[k], k in d -/
def keyD : D → Option Key
  | .int i => some (.inl i)
  | .str s => some (.inr s)
  | _ => none
def keysD : List D → Option (List Key)
  | [] => some []
  | d :: ds => match keyD d, keysD ds with
    | some k, some ks => some (k :: ks)
    | _, _ => none
def valD {κ : Type} [DecidableEq κ] (kvs : List (κ × D)) (k : κ) : Option D := (kvs.find? fun kv => decide (kv.1 = k)).map (·.2)
def getD : D → D → Option (Option D)
  | .dK kvs, y => (keyD y).map fun k => valD kvs k
  | .dT kvs, .tup ys => (keysD ys).map fun k => valD kvs k
  | _, _ => none
theorem RepK.val {φ F H} {k : Key} : ∀ {vs : List (Key × V)} {ds : List (Key × D)}, RepK φ F H vs ds → (valV vs k).isSome = (valD ds k).isSome ∧ ∀ d, valD ds k = some d → ∃ v, valV vs k = some v ∧ Rep φ F H v d
  | _, _, .nil => ⟨rfl, fun d e => by cases e⟩
  | _, _, .cons (k := k') (v := v) (d := d) (vs := vs) (ds := ds) h t => by
    by_cases e : k' = k
    · have e1 : valV ((k', v) :: vs) k = some v := valV_pos e
      have e2 : valD ((k', d) :: ds) k = some d := by simp [valD, List.find?_cons, e]
      rw [e1, e2]
      exact ⟨rfl, fun d' z => by cases z; exact ⟨v, rfl, h⟩⟩
    · have e1 : valV ((k', v) :: vs) k = valV vs k := valV_neg e
      have e2 : valD ((k', d) :: ds) k = valD ds k := by simp [valD, List.find?_cons, e]
      rw [e1, e2]
      exact t.val
theorem RepT.val {φ F H} {k : List Key} : ∀ {vs : List (List Key × V)} {ds : List (List Key × D)}, RepT φ F H vs ds → (valV vs k).isSome = (valD ds k).isSome ∧ ∀ d, valD ds k = some d → ∃ v, valV vs k = some v ∧ Rep φ F H v d
  | _, _, .nil => ⟨rfl, fun d e => by cases e⟩
  | _, _, .cons (k := k') (v := v) (d := d) (vs := vs) (ds := ds) h t => by
    by_cases e : k' = k
    · have e1 : valV ((k', v) :: vs) k = some v := valV_pos e
      have e2 : valD ((k', d) :: ds) k = some d := by simp [valD, List.find?_cons, e]
      rw [e1, e2]
      exact ⟨rfl, fun d' z => by cases z; exact ⟨v, rfl, h⟩⟩
    · have e1 : valV ((k', v) :: vs) k = valV vs k := valV_neg e
      have e2 : valD ((k', d) :: ds) k = valD ds k := by simp [valD, List.find?_cons, e]
      rw [e1, e2]
      exact t.val
theorem key_rep {φ F H} {v : V} {d : D} {k : Key} (t : Top φ F H v d) (e : keyD d = some k) : v = kV k := by
  cases t with
  | int i => cases e; rfl
  | str s => cases e; rfl
  | _ => cases e
theorem keys_rep {φ F H} : ∀ {vs : List V} {ds : List D} {ks : List Key}, RepL φ F H vs ds → keysD ds = some ks → vs = ks.map kV
  | _, _, _, .nil, e => by cases e; rfl
  | _, _, _, .cons (d := d) (ds := ds) h t, e => by
    unfold keysD at e
    cases q1 : keyD d with
    | none => rw [q1] at e; cases e
    | some k =>
      cases q2 : keysD ds with
      | none => rw [q1, q2] at e; cases e
      | some ks =>
        rw [q1, q2] at e
        cases e
        rw [key_rep h.top q1, keys_rep t q2]
        rfl
theorem get_ok {c : C0} {W : Wd} {st : Ps} {σ : L2.St} {H : Hp} (P : Pre c W st σ H) {x y : V} {d1 d2 : D} {o : Option D} (t1 : Top W.φ W.F H x d1) (t2 : Top W.φ W.F H y d2) (e : getD d1 d2 = some o) : ∃ a r, x = .ref a ∧ DGet (lockH W.L H) a y r ∧ r.isSome = o.isSome ∧ ∀ d, o = some d → ∃ v, r = some v ∧ Rp W H v d := by
  unfold getD at e
  split at e
  · obtain ⟨k, e1, rfl⟩ := Option.map_eq_some_iff.mp e
    have := key_rep t2 e1
    subst this
    cases t1 with
    | dK h1 r1 => exact ⟨_, _, rfl, .inl ⟨_, k, lock_rd h1, rfl, rfl⟩, r1.val.1, r1.val.2⟩
  · obtain ⟨k, e1, rfl⟩ := Option.map_eq_some_iff.mp e
    cases t2 with
    | tup h2 r2 =>
      have := keys_rep r2 e1
      subst this
      cases t1 with
      | dT h1 r1 => exact ⟨_, _, rfl, .inr ⟨_, k, _, lock_rd h1, rfl, P.nol h2 rfl, rfl⟩, r1.val.1, r1.val.2⟩
  · cases e
def rInDc (n : Bool) : V → V → Hp → VK → Prop := fun x y H Q => ∃ a o, y = .ref a ∧ DGet H a x o ∧ Q (.bl (if n then !o.isSome else o.isSome)) H
theorem op_inDc (hu : X.A.units + 1 < cLine) : OpR X (compareOp .In) (rInDc false) := by
  intro pins s σ H x y v u Q I rx ry h
  obtain ⟨a, o, rfl, g, q⟩ := h
  cases ry
  exact d_in hu I g rx fun s3 I3 => ⟨.bl o.isSome, H, I3, rfl, q⟩
theorem op_notInDc (hu : X.A.units + 1 < cLine) : OpR X (compareOp .NotIn) (rInDc true) := by
  intro pins s σ H x y v u Q I rx ry h
  obtain ⟨a, o, rfl, g, q⟩ := h
  cases ry
  exact d_notIn hu I g rx fun s3 I3 => ⟨.bl (!o.isSome), H, I3, rfl, q⟩
def inG (n : Bool) (x y : D) : Option O := match getD y x with
  | some o => some (.d (.bl (if n then !o.isSome else o.isSome)))
  | none => inD n x y
theorem g_inG (K : PySem.W.Frag) : OpG (fun x y H Q => rInDc false x y H Q ∨ rInA K x y H Q) (inG false) := fun c W st σ H v1 v2 d1 d2 o Q P t1 t2 e h => by
  unfold inG at e
  split at e
  · rename_i o' q
    cases e
    obtain ⟨a, r, rfl, g, hs, _⟩ := get_ok P t2 t1 q
    exact .inl ⟨a, r, rfl, g, h.d P (by rw [hs]; exact .bl _)⟩
  · exact .inr (g_in K c W st σ H v1 v2 d1 d2 o Q P t1 t2 e h)
theorem g_notInG (K : PySem.W.Frag) : OpG (fun x y H Q => rInDc true x y H Q ∨ rNotInA K x y H Q) (inG true) := fun c W st σ H v1 v2 d1 d2 o Q P t1 t2 e h => by
  unfold inG at e
  split at e
  · rename_i o' q
    cases e
    obtain ⟨a, r, rfl, g, hs, _⟩ := get_ok P t2 t1 q
    exact .inl ⟨a, r, rfl, g, h.d P (by rw [hs]; exact .bl _)⟩
  · exact .inr (g_notIn K c W st σ H v1 v2 d1 d2 o Q P t1 t2 e h)
theorem op_inX (K : PySem.W.Frag) (hu : X.A.units + 65 < cLine) (h : X.K = K := by rfl) : OpR X (compareOp .In) (fun x y H Q => rInDc false x y H Q ∨ rInA K x y H Q) := (op_inDc (by omega)).or (op_inA K hu h)
theorem op_notInX (K : PySem.W.Frag) (hu : X.A.units + 65 < cLine) (h : X.K = K := by rfl) : OpR X (compareOp .NotIn) (fun x y H Q => rInDc true x y H Q ∨ rNotInA K x y H Q) := (op_notInDc (by omega)).or (op_notInA K hu h)
/-! ### changing a slot's list or dict -/
def sApp (i : Nat) (f : Ex) : Sx := fun E K st => (∃ ys, st.ρ[i]? = some (.lst ys)) ∧ f E st fun r st1 => opt (frz st1 r) fun q => match q.2.ρ[i]? with
  | some (.lst xs) => xs.length < sizeLine ∧ K.nx { q.2 with ρ := q.2.ρ.set i (.lst (xs ++ [q.1])) }
  | _ => False
theorem Pre.own_lst {c : C0} {W : Wd} {st : Ps} {σ : L2.St} {H : Hp} (P : Pre c W st σ H) {i : Nat} {xs : List D} (h : st.ρ[i]? = some (.lst xs)) : ∃ a vs, σ[i]? = some (some (.ref a)) ∧ H a = some (.lst vs) ∧ RepL W.φ W.F H vs xs := by
  obtain ⟨a, e1, vs, e2, e3⟩ := P.slot i _ h
  exact ⟨a, vs, join_ref e1, e2, e3⟩
theorem pxs_app {e ee : Expr} {i : Nat} {f : Ex} {s : Stmt} (h : ∀ {t : TA}, PA X [e] t → PS X s (tDrop (tBM X.K "list" rAppend (tVar i) t))) (he : PXA X [e] (xCons f xNil)) : PXS X s (sApp i f) := fun c l => psOf (h (he c l)) fun D σ H ⟨W, st, H1, K, hH, P, ek, ⟨ys, hy⟩, q⟩ => by
  subst hH
  obtain ⟨a, vs, e1, e2, e3⟩ := P.own_lst hy
  refine ⟨_, e1, .inl ⟨rfl, vs, SqL.of (P.nol e2 rfl)⟩, W, st, H1, fun rs st1 => ∃ r, rs = [r] ∧ opt (frz st1 r) fun q => match q.2.ρ[i]? with
    | some (.lst xs) => xs.length < sizeLine ∧ K.nx { q.2 with ρ := q.2.ρ.set i (.lst (xs ++ [q.1])) }
    | _ => False, rfl, P, ?_, ?_⟩
  · show f c.E st fun r st1 => ∃ r', [r] = [r'] ∧ _
    simp only [List.cons.injEq, and_true, exists_eq_left']
    exact q
  · rintro rs st1 us W1 H2 ⟨r, rfl, q1⟩ s1 P1 rvs
    obtain ⟨⟨y, st2⟩, e4, q1⟩ := opt_ex q1
    cases rvs with
    | cons rv t =>
      cases t
      obtain ⟨W2, s2, P2, r2, eL⟩ := frz_ok P1 e4 rv
      dsimp only at q1 P2 r2
      split at q1
      · rename_i xs hxs
        obtain ⟨a', vs', f1, f2, f3⟩ := P2.own_lst hxs
        rw [e1] at f1
        cases f1
        refine ⟨_, _, _, rfl, rfl, P1.nol f2 rfl, by rw [f3.length]; exact q1.1, ?_⟩
        have so : slotOwns st2.ρ σ i a := ⟨_, hxs, rfl, e1⟩
        rw [← eL, lock_upd (P2.lown (P2.sown i a so).1 (P2.sown i a so).2.1)]
        refine ek.1 _ _ _ _ q1.2 (P2.mutate hxs rfl e1 rfl fun fu => ⟨_, upd_same, (f3.fut fu).snoc (r2.fut fu)⟩) ((P.aft (s1.trans s2)).trans ⟨?_, [], rfl⟩)
        exact fut_mut W2 (P2.sown i a so).1 f2 rfl
      · exact q1.elim
end
end Q
namespace Q
open PySem L2 PySem.Spec PyProof.Rows
theorem _root_.L2.Room.u65 {k : Nat} {A : Around} (r : Room k A) : A.units + 65 < cLine := by have := r.un; omega
section
variable {X : Cx}
/-! ### is None -/
/-! ### texts -/
instance (z : Str) (i : Int) : Decidable (MulOk z i) := by unfold MulOk; infer_instance
/-! ### found.append(left.pop(e)) -/
/-! ### a new dict -/
def xNewK : Ox := fun _ st Q => Q (.dK []) st
theorem po_newK {pos : Pos} : PO X (.Dict [] [] pos) xNewK := fun c l => peOf pe_dnewK fun σ H Q ⟨W, st, H1, Q0, hH, P, q, k⟩ => by
  subst hH
  exact Res.new P (o := .dK []) (fun v W' H2 s P' ov => k _ _ _ _ _ q s P' ov) rfl fun p hp => ⟨[], upd_same, .nil⟩
end
end Q
/-! own special methods: in, not in, [], []=, |, -, ==, != of instances of own classes -/
namespace Q
open PySem L2
section
variable {X : Cx} {CX : CXT} {n : Nat} {f C : Addr} {fd : FuncData} {ps : List Str} {sp : Sp} {E : XK}
theorem run_at (F : FnOk X.prog X.w X.K X.mg X.base CX n f fd ps sp) (hb : Binds X.K fd ps []) (hx : Passes CX X E) {A : Around} (sb : Sub X n A) {pins : List (Addr × Obj)} {s : Shared} {σ : L2.St} {H : Hp} {vs : List V} {us : List Value} {W : VK}
    (I : L2.Inv X pins σ H s) (r : Vals vs us) (h : sp vs H W E) : wpAny (model X.prog X.w) A (call (.ref f) us) (EP X pins σ W) X.xe s := by
  have e0 : Env0 X.prog X.w X.K X.mg X.base A X.stack s H := by
    have e := I.env0
    exact ⟨by rw [sb.fr]; exact e.frames, e.mod, e.bs, e.bsz, e.funs, e.frf, e.hok, e.bare⟩
  have hl : us.length = ps.length := by rw [← r.length]; exact F.len _ _ _ _ h
  have bd := hb s us I.kIn (by rw [List.append_nil]; exact hl)
  rw [List.append_nil] at bd
  refine wpAny_call (codeAny_mono (F.run A X.stack s H ⟨us, []⟩ us vs W E sb.room e0 bd r h) fun q s' hq => ?_)
  cases q with
  | error e => exact hx pins σ H s e s' I hq
  | ok fl =>
    cases fl with
    | ret w => exact I.after hq
    | next => exact False.elim hq
    | brk => exact False.elim hq
    | cont => exact False.elim hq
/-- an instance of the class at C -/
def IsIns (H : Hp) (a C : Addr) : Prop := ∃ dx fs, H a = some (.ins C dx fs)
theorem ins_at {pins : List (Addr × Obj)} {s : Shared} {σ : L2.St} {H : Hp} {a : Addr} (I : L2.Inv X pins σ H s) (h : IsIns H a C) : ∃ ox od, PySem.W.InstAt s.heap a ox C od := by
  obtain ⟨dx, fs, e⟩ := h
  obtain ⟨mA, J, _⟩ := ins_get I.hok e
  obtain ⟨od, J, _⟩ := J.look
  exact ⟨_, _, J⟩
/-- what is asked of an own method that is called by a sign -/
structure Spc (X : Cx) (C : Addr) (m : Str) (f : Addr) : Prop where
  at_ : PySem.W.findIn X.K (.ref C) m = some (some (.ref f))
  fn : PySem.W.isFn X.K (.ref f) = true
def boolQ (Q : VK) : VK := fun r H' => ∃ b, r = .bl b ∧ Q (.bl b) H'
def notQ (Q : VK) : VK := fun r H' => ∃ b, r = .bl b ∧ Q (.bl (!b)) H'
/-- o == p, by an own __eq__ that answers a bool -/
def rEqOwn (C : Addr) (sp : Sp) (E : XK) : R2 := fun x y H Q => ∃ a b, x = .ref a ∧ y = .ref b ∧ IsIns H a C ∧ IsIns H b C ∧ sp [.ref a, .ref b] H (boolQ Q) E
theorem op_eqOwn (S : Spc X C "__eq__" f) (F : FnOk X.prog X.w X.K X.mg X.base CX n f fd ps sp) (hr : Room n X.A) (hb : Binds X.K fd ps []) (hx : Passes CX X E) : OpR X (compareOp .Eq) (rEqOwn C sp E) := by
  intro pins s σ H x y v u Q I rx ry h
  obtain ⟨a, b, rfl, rfl, hi, hi', q⟩ := h
  cases rx
  cases ry
  obtain ⟨ox, od, J⟩ := ins_at I hi
  obtain ⟨ox', od', J'⟩ := ins_at I hi'
  obtain ⟨m, hF⟩ := I.fr
  show wpAny (model X.prog X.w) X.A (richCompare .Eq (.ref a) (.ref b)) (EP X pins σ Q) X.xe s
  refine PySem.W.cmp_K (op := .Eq) (tb := .ref C) hr.units0 hF I.ok.mod.kin J J'.type (by simp [PySem.W.notFirst]) S.at_ S.fn (wpAny_mono (run_at (vs := [.ref a, .ref b]) F hb hx ⟨hr, rfl⟩ I (.cons rfl (.cons rfl .nil)) q) (fun r s' z => ?_) fun _ _ e => e)
  obtain ⟨z, H', I', rz, b, rfl, q'⟩ := z
  cases rz
  exact ⟨.bl b, H', I', rfl, q'⟩
end
/-! != where the class has an own == and no own != -/
section
variable {prog : Program} {w : World} {A : Around} {E : Value → Shared → Prop} {s : Shared} {K : PySem.W.Frag} {x y C f : Addr} {ox : Obj} {od : Option Obj}
theorem objNe_K {b : Value} {Q : Fin → Shared → Prop} (X : K.In s.heap) (I : PySem.W.InstAt s.heap x ox C od) (hu : A.units < cLine) (hs : PySem.W.findIn K (.ref C) "__eq__" = some (some (.ref f))) (hf : PySem.W.isFn K (.ref f) = true)
    (h : wpAny (model prog w) A (call (.ref f) [.ref x, b]) (fun v s' => ∃ r, v = .bool r ∧ Q (.done (.ret (.bool (!r)))) s') E s) :
    wpAny (model prog w) A (Builtin.«object.__ne__» ⟨[.ref x, b], []⟩) Q E s := by
  unfold Builtin.«object.__ne__»
  repeat (first
    | with_reducible refine wpAny_cRoomFor hu ?_
    | (refine wpAny_bind (m := callSpecialIfBound? (.ref x) (Str.ofString "__eq__") [b])
        (PySem.W.ifBound_K X I hs hf (wpAny_mono h (fun v s' hv => by
          obtain ⟨r, rfl, hq⟩ := hv
          repeat (first | exact hq | exact wpAny_pure hq | exact wpAny_truthy_bool hq | (refine wpAny_bind (m := truthy (.bool _)) (wpAny_truthy_bool ?_)) | wp_step)) fun _ _ e => e)))
    | wp_step)
theorem ifBoundB_K {M : Model} {name : Str} {id : String} {args : List Value} {Q : Option Value → Shared → Prop} (X : K.In s.heap) (I : PySem.W.InstAt s.heap x ox C od) (hs : PySem.W.findIn K (.ref C) name = some (some (.builtin id)))
    (hb : ∀ self, bindSpecial (.builtin id) self = pure (.builtin id, [self]))
    (h : wpAny M A (call (.builtin id) (.ref x :: args)) (fun v => Q (some v)) E s) : wpAny M A (callSpecialIfBound? (.ref x) name args) Q E s := by
  simp only [callSpecialIfBound?, bindSpecialIfBound?]
  refine wpAny_holding (wpAny_bind (wpAny_bind (wpAny_bind (I.type.here ((PySem.W.looks_findIn X hs).here ?_)))))
  refine wpAny_bind (wpAny_askSetting (wpAny_ite ?_))
  have fin : wpAny M A (call (.builtin id) ([.ref x] ++ args) >>= fun v => pure (some v)) Q E s := wpAny_bind (wpAny_mono h (fun v s' h' => wpAny_pure h') fun _ _ h' => h')
  split
  · rw [hb]
    exact wpAny_bind (wpAny_pure (wpAny_pure (by exact fin)))
  · rw [hb]
    exact wpAny_tryCatch (wpAny_bind (wpAny_pure (wpAny_pure (by exact fin))))
theorem ne_K {Q : Value → Shared → Prop} {b : Value} (hu : A.units + 1 < cLine) (X : K.In s.heap) (I : PySem.W.InstAt s.heap x ox C od) (hb : PySem.W.Looks (model prog w) s.heap (typeOf b) (.ref C))
    (hn : PySem.W.findIn K (.ref C) "__ne__" = some (some (.builtin "object.__ne__"))) (ho : PySem.W.subIn K (.ref C) (.type "object") = some true) (hs : PySem.W.findIn K (.ref C) "__eq__" = some (some (.ref f))) (hf : PySem.W.isFn K (.ref f) = true)
    (h : wpAny (model prog w) A.in1 (call (.ref f) [.ref x, b]) (fun v s' => ∃ r, v = .bool r ∧ Q (.bool (!r)) s') E s) : wpAny (model prog w) A (richCompare .NotEq (.ref x) b) Q E s := by
  have one : wpAny (model prog w) A (tryCompare (.ref x) "__ne__" b) (fun r s' => ∃ v, r = some v ∧ Q v s') E s := by
    unfold tryCompare
    refine wpAny_bind (ifBoundB_K X I hn F.cmp_object.ne.bind ?_)
    refine wpAny_call (codeAny_call_builtin F.cmp_object.ne.plain F.cmpEntry_ne (PySem.W.check_slot F.cmpKind_ne F.cmpSplit_ne (I.type.andThen (PySem.W.looks_subIn X ho)) (F.cmpArgs_ne _ _) ?_))
    refine objNe_K (A := A.in1) X I (by exact hu) hs hf (wpAny_mono h (fun v s' hv => ?_) fun _ _ e => e)
    obtain ⟨r, rfl, hq⟩ := hv
    exact ⟨r, rfl, wpAny_pure ⟨_, rfl, hq⟩⟩
  unfold richCompare
  simp only [oneThing_ref]
  refine wpAny_holding (wpAny_bind (wpAny_cRoomFor (Nat.lt_of_succ_lt hu) ?_))
  rw [cmpInfo_NotEq]
  dsimp only
  refine wpAny_bind (I.type.here (wpAny_bind (hb.here ?_)))
  rw [show (Value.ref C != Value.ref C) = false from by simp]
  simp only [Bool.false_eq_true, if_false]
  refine wpAny_bind (wpAny_pure ?_)
  simp only [Bool.false_eq_true, if_false]
  refine wpAny_bind (wpAny_mono one (fun r s' z => ?_) fun _ _ e => e)
  obtain ⟨v, rfl, hq⟩ := z
  exact wpAny_pure hq
end
section
variable {X : Cx} {CX : CXT} {n : Nat} {f C : Addr} {fd : FuncData} {ps : List Str} {sp : Sp} {E : XK}
def rNeOwn (C : Addr) (sp : Sp) (E : XK) : R2 := fun x y H Q => ∃ a b, x = .ref a ∧ y = .ref b ∧ IsIns H a C ∧ IsIns H b C ∧ sp [.ref a, .ref b] H (notQ Q) E
theorem op_neOwn (S : Spc X C "__eq__" f) (hn : PySem.W.findIn X.K (.ref C) "__ne__" = some (some (.builtin "object.__ne__"))) (ho : PySem.W.subIn X.K (.ref C) (.type "object") = some true) (F : FnOk X.prog X.w X.K X.mg X.base CX n f fd ps sp)
    (hr : Room (n + 1) X.A) (hb : Binds X.K fd ps []) (hx : Passes CX X E) : OpR X (compareOp .NotEq) (rNeOwn C sp E) := by
  intro pins s σ H x y v u Q I rx ry h
  obtain ⟨a, b, rfl, rfl, hi, hi', q⟩ := h
  cases rx
  cases ry
  obtain ⟨ox, od, J⟩ := ins_at I hi
  obtain ⟨ox', od', J'⟩ := ins_at I hi'
  show wpAny (model X.prog X.w) X.A (richCompare .NotEq (.ref a) (.ref b)) (EP X pins σ Q) X.xe s
  refine ne_K (by have := hr.un; omega) I.kIn J J'.type hn ho S.at_ S.fn (wpAny_mono (run_at (vs := [.ref a, .ref b]) F hb hx ⟨hr.in1, rfl⟩ I (.cons rfl (.cons rfl .nil)) q) (fun r s' z => ?_) fun _ _ e => e)
  obtain ⟨z, H', I', rz, r, rfl, q'⟩ := z
  cases rz
  exact ⟨r, rfl, .bl (!r), H', I', rfl, q'⟩
end
end Q
namespace Q
open PySem L2 PySem.Spec PyProof.Rows
section
variable {X : Cx}
/-- a call that lets no error out, whatever is wanted of errors -/
theorem cP0_ok {c : C0} {W : Wd} {st : Ps} {σ : L2.St} {H : Hp} {np : Nat} {m : MF} {rs : List R} {vs : List V} {Q : VK} {Q1 : O → Ps → Prop} (E' : XK) (P : Pre c W st σ H) (r : RVs W σ H vs rs) (h : cP np m E0k st rs Q1)
    (k : ∀ o st' v W' H2, Q1 o st' → Step c.rw W H W' H2 → Pre c W' st' σ H2 → OV c W' st' σ H2 v o → Q v (lockH W'.L H2)) : spM false np m vs (lockH W.L H) Q E' := by
  have h0 := cP_ok (c := { c with E := E0k }) (P.ctx rfl rfl rfl fun _ z => z) r h (Q := Q) fun o st' v W' H2 q s P' ov => k o st' v W' H2 q s (P'.ctx rfl rfl rfl fun _ z => z) (by
    cases o with
    | un => exact ov
    | d x => exact ov
    | lst _ => exact ov
    | dK _ => exact ov
    | dT _ => exact ov
    | ins _ _ _ => exact ov)
  obtain ⟨W1, S1, H1, ds, Q0, E0, a1, a2, a3, a4, a5, a6, a7⟩ := h0
  refine ⟨W1, S1, H1, ds, Q0, E0, a1, a2, a3, a4, a5, a6, fun C fs S' od W' H2 e s n B el ex => ?_⟩
  obtain ⟨_, st', _, _, _, _, _, _, _, z⟩ := a7 C fs S' od W' H2 e s n B el ex
  exact z.elim
theorem cE0_ok {c : C0} {W : Wd} {st : Ps} {σ : L2.St} {H : Hp} {rw : Bool} {np : Nat} {m : MF} {rs : List R} {vs : List V} {Q : VK} {Q1 : O → Ps → Prop} (E' : XK) (P : Pre c W st σ H) (r : RVs W σ H vs rs) (h : cE rw np m E0k st rs Q1)
    (k : ∀ o st' v W' H2, Q1 o st' → Step c.rw W H W' H2 → Pre c W' st' σ H2 → OV c W' st' σ H2 v o → Q v (lockH W'.L H2)) : spM rw np m vs (lockH W.L H) Q E' := by
  have h0 := cE_ok (c := { c with E := E0k }) (P.ctx rfl rfl rfl fun _ z => z) r h (Q := Q) fun o st' v W' H2 q s P' ov => k o st' v W' H2 q s (P'.ctx rfl rfl rfl fun _ z => z) (by
    cases o with
    | un => exact ov
    | d x => exact ov
    | lst _ => exact ov
    | dK _ => exact ov
    | dT _ => exact ov
    | ins _ _ _ => exact ov)
  obtain ⟨W1, S1, H1, ds, Q0, E0, a1, a2, a3, a4, a5, a6, a7⟩ := h0
  refine ⟨W1, S1, H1, ds, Q0, E0, a1, a2, a3, a4, a5, a6, fun C fs S' od W' H2 e s n B el ex => ?_⟩
  obtain ⟨_, st', _, _, _, _, _, _, _, z⟩ := a7 C fs S' od W' H2 e s n B el ex
  exact z.elim
/-! ### which class -/
def clsOf (st : Ps) (r : R) (m : Str) : Option Addr := match look st r with
  | some (.ins C fs) => if (fs.lookup m).isNone then some C else none
  | some (.cell n) => match st.S[n]? with
    | some (.db _ C _ _) => if m == "own_schema" || m == "own_rows" then none else some C
    | _ => none
  | _ => none
theorem RepF.lookup_none {φ F H} {f : Str} : ∀ {vs : List (Str × V)} {ds : List (Str × D)}, RepF φ F H vs ds → (ds.lookup f).isNone = true → vs.lookup f = none
  | _, _, .nil, _ => rfl
  | _, _, .cons (k := k) h t, e => by
    rw [List.lookup_cons] at e ⊢
    cases q : f == k with
    | true => rw [q] at e; cases e
    | false => rw [q] at e; exact t.lookup_none e
theorem cls_at {c : C0} {W : Wd} {st : Ps} {σ : L2.St} {H : Hp} (P : Pre c W st σ H) {r : R} {v : V} {m : Str} {C : Addr} (rv : RV W σ H v r) (e : clsOf st r m = some C) : ∃ a dx fs, v = .ref a ∧ lockH W.L H a = some (.ins C dx fs) ∧ fs.lookup m = none := by
  unfold clsOf at e
  split at e
  · rename_i C' fs hl
    have t := P.top rv hl
    split at e
    · rename_i hn
      cases e
      cases t with
      | ins h1 r1 => exact ⟨_, _, _, rfl, P.nol h1 rfl, r1.lookup_none hn⟩
    · cases e
  · rename_i n hl
    have t := P.top rv hl
    split at e
    · rename_i x0 C' sch rows hS
      split at e
      · cases e
      · rename_i hm
        cases e
        cases t with
        | cell e1 =>
          have hl := P.base.len
          have hn := (List.getElem?_eq_some_iff.mp e1).1
          obtain ⟨dx, vs, kvs, ts, _, _, h2, h3, _⟩ := P.base.cell n _ _ _ e1 hS (List.getElem?_eq_getElem (by omega))
          refine ⟨_, _, _, rfl, P.nol h2 rfl, ?_⟩
          rw [Bool.or_eq_true, not_or] at hm
          rw [List.lookup_cons, Bool.eq_false_iff.mpr hm.1, List.lookup_cons, Bool.eq_false_iff.mpr hm.2]
          rfl
    · cases e
  · cases e
/-! ### o.m(..) -/
/-- a method of a class, as it may be called here -/
abbrev FnS (X : Cx) (k : Nat) (f : Addr) (sp : Sp) : Prop := FnR X.prog X.w X.K X.mg X.base (L2.CX X.prog X.w) k f sp
theorem fnS_of {k : Nat} {f : Addr} {fd : FuncData} {ps : List Str} {sp : Sp} (F : FnOk X.prog X.w X.K X.mg X.base (L2.CX X.prog X.w) k f fd ps sp) (hb : Binds X.K fd ps []) : FnS X k f sp := (F.raw hb .nil).imp fun vs H Q E h => by rw [List.append_nil]; exact h
end
end Q
namespace Q
open PySem L2 PySem.Spec PyProof.Rows
section
variable {X : Cx}
/-! ### signs that call own methods (no error leaves them) -/
def cA (z : Bool × Nat × MF) (st : Ps) (rs : List R) (Q : O → Ps → Prop) : Prop := if z.1 = true then cE true z.2.1 z.2.2 E0k st rs Q else cP z.2.1 z.2.2 E0k st rs Q
theorem cA_ok {c : C0} {W : Wd} {st : Ps} {σ : L2.St} {H : Hp} {z : Bool × Nat × MF} {rs : List R} {vs : List V} {Q : VK} {Q1 : O → Ps → Prop} (E' : XK) (P : Pre c W st σ H) (r : RVs W σ H vs rs) (h : cA z st rs Q1)
    (k : ∀ o st' v W' H2, Q1 o st' → Step c.rw W H W' H2 → Pre c W' st' σ H2 → OV c W' st' σ H2 v o → Q v (lockH W'.L H2)) : spM z.1 z.2.1 z.2.2 vs (lockH W.L H) Q E' := by
  obtain ⟨b, np, mf⟩ := z
  unfold cA at h
  cases b with
  | true =>
    rw [if_pos rfl] at h
    exact cE0_ok E' P r h k
  | false =>
    rw [if_neg Bool.false_ne_true] at h
    exact cP0_ok E' P r h k
theorem OpR.ex {f : Value → Value → Sem Value} {α : Type} {r : α → V → V → Hp → VK → Prop} (h : ∀ i, OpR X f (r i)) : OpR X f (fun x y H Q => ∃ i, r i x y H Q) := fun pins s σ H x y v u Q I rx ry ⟨i, q⟩ => h i pins s σ H x y v u Q I rx ry q
theorem pxt_O {a b ee : Expr} {r : V → V → Hp → VK → Prop} {f1 f2 : Ex} {g : Ox} (h : ∀ {t1 t2 : TE}, PE X a t1 → PE X b t2 → PT X ee (tTest (tOp r t1 t2))) (h1 : PX X a f1) (h2 : PX X b f2) (hg : ∀ c σ H Q, tO c g σ H Q → tOp r (tX c f1) (tX c f2) σ H Q) : PXT X ee (xTO g) := fun c l => ptOf (h (h1 c l) (h2 c l)) fun σ H Q ⟨W, st, H1, Q0, hH, P, q, k⟩ =>
  hg c σ H _ ⟨W, st, H1, _, hH, P, q, fun o st1 v W1 H2 q1 s1 P1 ov => by
    obtain ⟨d, e1, q1⟩ := opt_ex q1
    exact ⟨d, ov_bl ov e1, k _ _ _ _ q1 s1 P1⟩⟩
/-! ### o[k] -/
/-! ### ==, != of two instances of one class -/
def xEqS (C : Addr) (z : Bool × Nat × MF) (n : Bool) (f1 f2 : Ex) : Ox := fun E st Q => f1 E st fun r1 st1 => f2 E st1 fun r2 st2 => clsOf st2 r1 "__eq__" = some C ∧ clsOf st2 r2 "__eq__" = some C ∧ cA z st2 [r1, r2] fun o st3 => opt (isB o) fun b => Q (.d (.bl (if n then !b else b))) st3
theorem eqS_go {C : Addr} {z : Bool × Nat × MF} {n : Bool} {f1 f2 : Ex} {c : C0} {σ : L2.St} {H : Hp} {Q : VK} (h : tO c (xEqS C z n f1 f2) σ H Q) : tOp (if n then rNeOwn C (spM z.1 z.2.1 z.2.2) E0 else rEqOwn C (spM z.1 z.2.1 z.2.2) E0) (tX c f1) (tX c f2) σ H Q := by
  obtain ⟨W, st, H1, Q0, hH, P, q, k⟩ := h
  refine ⟨W, st, H1, _, hH, P, q, fun r1 st1 v1 W1 H2 q1 s1 P1 rv1 => ⟨W1, st1, H2, _, rfl, P1, q1, fun r2 st2 v2 W2 H3 q2 s2 P2 rv2 => ?_⟩⟩
  obtain ⟨e1, e2, q2⟩ := q2
  obtain ⟨p, dx, fs, rfl, hp, _⟩ := cls_at P2 (rv1.step P1 s2) e1
  obtain ⟨p', dx', fs', rfl, hp', _⟩ := cls_at P2 rv2 e2
  have go : ∀ (Q' : VK), (∀ b H, Q (.bl (if n then !b else b)) H → Q' (.bl b) H) → spM z.1 z.2.1 z.2.2 [.ref p, .ref p'] (lockH W2.L H3) Q' E0 := fun Q' hQ => by
    refine cA_ok E0 P2 (.cons (rv1.step P1 s2) (.cons rv2 .nil)) q2 fun o st3 v W3 H4 q3 s3 P3 ov => ?_
    obtain ⟨b, e3, q3⟩ := opt_ex q3
    have := ov_bl ov e3
    subst this
    exact hQ b _ (k _ _ _ _ _ q3 ((s1.trans s2).trans s3) P3 (.bl _ : Rp W3 H4 _ (.bl _)))
  cases n with
  | true => exact ⟨p, p', rfl, rfl, ⟨dx, fs, hp⟩, ⟨dx', fs', hp'⟩, go _ fun b H hq => ⟨b, rfl, hq⟩⟩
  | false => exact ⟨p, p', rfl, rfl, ⟨dx, fs, hp⟩, ⟨dx', fs', hp'⟩, go _ fun b H hq => ⟨b, rfl, hq⟩⟩
theorem po_eqS {a b ee : Expr} {C : Addr} {z : Bool × Nat × MF} {n : Bool} {f1 f2 : Ex} (h : ∀ {t1 t2 : TE}, PE X a t1 → PE X b t2 → PE X ee (tOp (if n then rNeOwn C (spM z.1 z.2.1 z.2.2) E0 else rEqOwn C (spM z.1 z.2.1 z.2.2) E0) t1 t2)) (h1 : PX X a f1) (h2 : PX X b f2) : PO X ee (xEqS C z n f1 f2) :=
  fun c l => peOf (h (h1 c l) (h2 c l)) fun σ H Q q => eqS_go q
/-! ### o | p, o - p -/
/-! ### o.p, a property -/
def xPr (C : Addr) (z : Bool × Nat × MF) (m : Str) (f : Ex) : Ox := fun E st Q => f E st fun r st1 => clsOf st1 r m = some C ∧ cA z st1 [r] Q
theorem po_pr {e ee : Expr} {C : Addr} {z : Bool × Nat × MF} {m : Str} {f : Ex} (h : ∀ {t : TE}, PE X e t → PE X ee (tProp C (spM z.1 z.2.1 z.2.2) [] E0 t)) (h1 : PX X e f) : PO X ee (xPr C z m f) := fun c l => peOf (h (h1 c l)) fun σ H Q ⟨W, st, H1, Q0, hH, P, q, k⟩ =>
  ⟨W, st, H1, _, hH, P, q, fun r st1 v W1 H2 q1 s1 P1 rv => by
    obtain ⟨p, dx, fs, rfl, hp, _⟩ := cls_at P1 rv q1.1
    exact ⟨p, dx, fs, rfl, hp, cA_ok E0 P1 (.cons rv .nil) q1.2 fun o st3 v W3 H4 q3 s3 P3 ov => k _ _ _ _ _ q3 (s1.trans s3) P3 ov⟩⟩
end
end Q
namespace Q
open PySem L2 PySem.Spec PyProof.Rows
/-! ### an instance's making -/
def hDel (H : Hp) (x : Addr) : Hp := fun a => if a = x then none else H a
theorem del_some {H : Hp} {x a : Addr} {o : HO} (h : hDel H x a = some o) : a ≠ x ∧ H a = some o := by
  unfold hDel at h
  split at h
  · cases h
  · rename_i n
    exact ⟨n, h⟩
theorem del_ne {H : Hp} {x a : Addr} (h : a ≠ x) : hDel H x a = H a := if_neg h
/-- the place of the instance, its fields so far, the arguments -/
abbrev MI := Addr → List (Str × D) → List D → EF → List Cell → (List (Str × D) → List Cell → Prop) → Prop
def spI (C : Addr) (rw : Bool) (np : Nat) (m : MI) : Sp := fun vs H Q E => ∃ W S H1 x dx xs0 fs0 vs' ds Q0 E0, vs = .ref x :: vs' ∧ H = lockH W.L H1 ∧ Base rw W S H1 ∧ H1 x = some (.ins C dx xs0) ∧ RepF W.φ W.F H1 xs0 fs0 ∧ ¬ W.F x ∧ ¬ W.own x ∧ RepL W.φ W.F H1 vs' ds ∧ ds.length = np ∧ m x fs0 ds E0 S Q0 ∧
  (∀ fs S' xs dx' W' H2, Q0 fs S' → Step rw W (hDel H1 x) W' H2 → (∀ a, W'.F a → W.F a ∨ hDel H1 x a = none) → Base rw W' S' H2 → W'.L = W.L → H2 x = some (.ins C dx' xs) → RepF W'.φ W'.F H2 xs fs → ¬ W'.F x → ¬ W'.own x → Q .non (lockH W.L H2)) ∧
  (∀ C fs S' od W' H2, E0 C fs S' → Step rw W (hDel H1 x) W' H2 → (∀ a, W'.F a → W.F a ∨ hDel H1 x a = none) → Base rw W' S' H2 → W'.L = W.L → ExcAt W' H2 od fs → E (.ref C) od (lockH W.L H2))
def endI (x C : Addr) (Q0 : List (Str × D) → List Cell → Prop) (st : Ps) : Prop := match (st.ρ[0]? : Option O) with
  | some (O.ins y C' fs) => y = x ∧ C' = C ∧ Q0 fs st.S
  | _ => False
def mkI (C : Addr) (rw : Bool) (n : Nat) (b : Sx) : MI := fun x fs ds E0 S Q0 => b (fun C fs st => E0 C fs st.S) ⟨endI x C Q0, fun o st => (match o with | .d .non => True | _ => False) ∧ endI x C Q0 st, fun _ => False, fun _ => False⟩ ⟨.ins x C fs :: (ds.map O.d ++ List.replicate (n - 1 - ds.length) .un), S, rw, false⟩
theorem base_del {rw : Bool} {W : Wd} {S : List Cell} {H : Hp} {x : Addr} (B : Base rw W S H) (hF : ¬ W.F x) (ho : ¬ W.own x) (ht : ∀ xs, H x ≠ some (.tup xs)) : Base rw W S (hDel H x) := by
  have ne : ∀ a, W.F a → a ≠ x := fun a h z => hF (by rw [← z]; exact h)
  have f : Fut W.φ W.F H W.φ W.F (hDel H x) := ⟨fun _ _ e => e, fun _ h => h, fun a o h e => by rw [del_ne (ne a h)]; exact e, fun a xs e => by rw [del_ne (fun z => ht xs (by rw [← z]; exact e))]; exact e⟩
  refine ⟨fun a h => ?_, B.len, fun n a c w h1 h2 h3 => ?_, B.apart, B.ownF, B.lN, fun a o h => ?_⟩
  · obtain ⟨o, e⟩ := B.fdom a h
    exact ⟨o, by rw [del_ne (ne a h)]; exact e⟩
  · refine (B.cell n a c w h1 h2 h3).fut f fun y hy => del_ne fun z => ho ⟨w, List.mem_of_getElem? h3, by rw [← z]; exact hy⟩
  · obtain ⟨h1, u, h2, h3⟩ := B.lF a o h
    exact ⟨h1, u, by rw [del_ne (fun z => h1.elim (fun y => ne a y z) fun y => ho (by rw [← z]; exact y.2))]; exact h2, h3⟩
theorem preI {W : Wd} {S : List Cell} {H : Hp} {ds : List D} {vs : List V} {rw : Bool} {E : EK} {N : List Str} {x C dx : Addr} {xs0 : List (Str × V)} {fs0 : List (Str × D)} (B : Base rw W S H) (hx : H x = some (.ins C dx xs0)) (rf : RepF W.φ W.F H xs0 fs0) (hF : ¬ W.F x) (ho : ¬ W.own x) (r : RepL W.φ W.F H vs ds) (hl : ds.length + 1 ≤ N.length) :
    Pre ⟨W, hDel H x, rw, E, fun _ => False⟩ W ⟨.ins x C fs0 :: (ds.map O.d ++ List.replicate (N.length - 1 - ds.length) .un), S, rw, false⟩ (L2.start N (.ref x :: vs)) H := by
  have hv := r.length
  have es : L2.start N (.ref x :: vs) = some (.ref x) :: (vs.map some ++ List.replicate (N.length - 1 - vs.length) none) := by
    unfold L2.start
    rw [List.map_cons, List.cons_append, List.length_cons, show N.length - (vs.length + 1) = N.length - 1 - vs.length by omega]
  rw [es]
  have one : ∀ {i a}, slotOwns (.ins x C fs0 :: (ds.map O.d ++ List.replicate (N.length - 1 - ds.length) .un)) (some (.ref x) :: (vs.map some ++ List.replicate (N.length - 1 - vs.length) none)) i a → i = 0 ∧ a = x := fun {i a} ⟨o, h1, h2, h3⟩ => by
    cases i with
    | zero =>
      cases h3
      exact ⟨rfl, rfl⟩
    | succ i =>
      rw [List.getElem?_cons_succ, List.getElem?_append] at h1
      split at h1
      · rw [List.getElem?_map] at h1
        cases e : ds[i]? with
        | none => rw [e] at h1; cases h1
        | some d => rw [e] at h1; cases h1; cases h2
      · have := List.mem_of_getElem? h1
        rw [(List.mem_replicate.mp this).2] at h2
        cases h2
  refine ⟨rfl, ⟨fun _ _ e => e, fun _ h => h, fun a o e _ => (del_some e).2, fun a o e => (del_some e).2, fun a e z => e ?_, fun _ h => .inl h, ⟨[], rfl⟩, fun _ h => .inl h⟩, fun a h => .inl h, B, ?_, fun i o h => ?_, fun i a z => ?_, fun i j a z y => by rw [(one z).1, (one y).1], fun a h => h.elim, fun h => (by cases h), fun a h => ?_⟩
  · by_cases q : a = x
    · exact if_pos q
    · show hDel H x a = none
      rw [del_ne q]
      exact z
  · simp only [List.length_cons, List.length_append, List.length_map, List.length_replicate]
    omega
  · cases i with
    | zero =>
      cases h
      exact ⟨x, rfl, rfl, dx, xs0, hx, rf⟩
    | succ i =>
      rw [List.getElem?_cons_succ, List.getElem?_append] at h
      rw [List.getElem?_cons_succ]
      split at h
      · rename_i hi
        rw [List.length_map] at hi
        rw [List.getElem?_map] at h
        cases e : ds[i]? with
        | none => rw [e] at h; cases h
        | some d =>
          rw [e] at h
          cases h
          obtain ⟨v, e1, e2⟩ := r.get e
          refine ⟨v, ?_, e2⟩
          rw [List.getElem?_append_left (by rw [List.length_map]; omega), List.getElem?_map, e1]
          rfl
      · have := List.mem_of_getElem? h
        rw [(List.mem_replicate.mp this).2]
        exact trivial
  · obtain ⟨rfl, rfl⟩ := one z
    exact ⟨hF, ho, if_pos rfl⟩
  · obtain ⟨o, e, m⟩ := B.own_there h
    exact ⟨o, by show hDel H x a = _; rw [del_ne (fun z => ho (by rw [← z]; exact h))]; exact e, m⟩
section
variable {P : Program} {w : World} {K : PySem.W.Frag} {mg : Str → Option Value} {base : Heap}
/-- the reading of an __init__'s body -/
theorem init_bodyJ {BJ : TS → Prop} {X : Cx} {N : List Str} {b : Sx} {C : Addr} {rw : Bool} {np : Nat} {vs : List V} {H : Hp} {Q : VK} {E : XK} (hN : np + 1 ≤ N.length) (h : spI C rw np (mkI C rw N.length b) vs H Q E) (unl : ∀ {t : TS}, BJ t → BJ (fun D => t (enUnl X D))) (hb : ∀ c, Lk X c → BJ (tXS c b)) (hX : X.H_0 = H) (tk : Takes X (fun cls d _ H => E cls d H)) :
    ∃ t, BJ t ∧ t { nx := fun _ H' => Q .non H', rt := Q } (L2.start N vs) H := by
  obtain ⟨W, S, H1, x, dx, xs0, fs0, vs', ds, Q0, E0, rfl, rfl, B, hx, rf, hF, ho, r, hl, q, kr, ke⟩ := h
  have lx : W.L.lookup x = none := by
    cases e : W.L.lookup x with
    | none => rfl
    | some o => exact ((B.lF x o e).1.elim hF fun z => ho z.2).elim
  have BD := base_del B hF ho fun xs z => by rw [hx] at z; cases z
  have hX' : ∀ d o' u', X.H_0 d = some (.frz o' u') → lockH W.L (hDel H1 x) d = some (.frz o' u') := fun d o' u' e => by
    rw [hX] at e
    by_cases z : d = x
    · rw [z, lock_at lx, hx] at e
      cases e
    · unfold lockH at e ⊢
      rw [del_ne z]
      exact e
  refine ⟨_, unl (hb ⟨W, hDel H1 x, rw, fun C fs st => E0 C fs st.S, fun _ => False⟩ ?_), ?_⟩
  · refine Takes.imp (takesUnl tk) ?_
    rintro cls od σ H ⟨W', st', H2, C, fs, rfl, P', rfl, ex, e0⟩
    obtain ⟨un, s1, B1⟩ := P'.exit (X := X) BD hX'
    exact ⟨_, un, ke C fs st'.S od _ H2 e0 s1 P'.new B1 rfl ex⟩
  · have fin : ∀ {st' : Ps} {W' : Wd} {σ' : L2.St} {H2 : Hp}, endI x C Q0 st' → Pre ⟨W, hDel H1 x, rw, fun C fs st => E0 C fs st.S, fun _ => False⟩ W' st' σ' H2 → ∃ H', Unl X (lockH W'.L H2) H' ∧ Q .non H' := fun {st' W' σ' H2} q' P' => by
      unfold endI at q'
      split at q'
      · rename_i y C' fs hs
        obtain ⟨rfl, rfl, q'⟩ := q'
        obtain ⟨un, s1, B1⟩ := P'.exit (X := X) BD hX'
        obtain ⟨a, e1, rfl, dx', xs', e2, e3⟩ := P'.slot 0 _ hs
        obtain ⟨n1, n2, _⟩ := P'.sown 0 _ ⟨_, hs, rfl, join_ref e1⟩
        exact ⟨_, un, kr fs _ xs' dx' _ H2 q' s1 P'.new B1 rfl e2 e3 n1 n2⟩
      · exact q'.elim
    refine ⟨W, _, H1, ⟨endI x C Q0, fun o st => (match o with | .d .non => True | _ => False) ∧ endI x C Q0 st, fun _ => False, fun _ => False⟩, rfl, preI B hx rf hF ho r (by omega), ⟨fun st' W' σ' H2 q' P' _ => fin q' P', fun o st' W' σ' H2 v q' P' _ ov => ?_, fun st' W' σ' H2 q' P' _ => q'.elim, fun st' W' σ' H2 q' P' _ => q'.elim⟩, q⟩
    obtain ⟨q1, q2⟩ := q'
    split at q1
    · have ov' : Rp W' H2 v .non := ov
      cases ov'
      exact fin q2 P'
    · exact q1.elim
theorem init_body {X : Cx} {N : List Str} {body : List Stmt} {b : Sx} {C : Addr} {rw : Bool} {np : Nat} {vs : List V} {H : Hp} {Q : VK} {E : XK} (hN : np + 1 ≤ N.length) (h : spI C rw np (mkI C rw N.length b) vs H Q E) (hb : PXB X body b) (hX : X.H_0 = H) (tk : Takes X (fun cls d _ H => E cls d H)) :
    ∃ t, PSs X body t ∧ t { nx := fun _ H' => Q .non H', rt := Q } (L2.start N vs) H := init_bodyJ (BJ := PSs X body) hN h pssUnl hb hX tk
theorem fnI {x qual : Str} {st : Stmt} {f C : Addr} {fd : FuncData} {N ps : List Str} {k np : Nat} {b : Sx} {rw : Bool} (F : Fun K x qual st f fd) (S : FnScope N ps (defScope st)) (hp : ps.length = np + 1) (hN : np + 1 ≤ N.length)
    (hb : ∀ (cdv : Value) (A : Around) (outer : List Env) (s : Shared) (H : Hp) (E : XK), Room k (A.deeper (envOfC qual (defScope st) s.heap.objs.size f cdv)) → PXB (cxOf (L2.CX P w) P w K mg base N qual (defScope st) f cdv A outer s H E) (defBody st) b) :
    FnOk P w K mg base (L2.CX P w) (k + 1) f fd ps (spI C rw np (mkI C rw N.length b)) := by
  refine F.okX S (fun vs H Q E h => ?_) fun cdv A outer s H vs Q E hr h => init_body hN h (hb cdv A outer s H E hr) rfl (takes_of rfl rfl rfl rfl)
  obtain ⟨W, S', H1, x, dx, xs0, fs0, vs', ds, Q0, E0, rfl, _, _, _, _, _, _, r, hl, _⟩ := h
  rw [List.length_cons, r.length, hl, hp]
end
/-! ### self.f = e -/
def putFD (f : Str) (v : D) : List (Str × D) → List (Str × D)
  | [] => [(f, v)]
  | (g, x) :: r => if g = f then (g, v) :: r else (g, x) :: putFD f v r
theorem RepF.put {φ F H} {f : Str} {v : V} {d : D} (h : Rep φ F H v d) : ∀ {vs : List (Str × V)} {ds : List (Str × D)}, RepF φ F H vs ds → RepF φ F H (putF f v vs) (putFD f d ds)
  | _, _, .nil => .cons h .nil
  | _, _, .cons (k := k) a t => by
    unfold putF putFD
    split
    · exact .cons h t
    · exact .cons a (t.put h)
theorem RepF.length {φ F H} : ∀ {vs : List (Str × V)} {ds : List (Str × D)}, RepF φ F H vs ds → vs.length = ds.length
  | _, _, .nil => rfl
  | _, _, .cons _ t => congrArg (· + 1) t.length
def sFldI (K : PySem.W.Frag) (i : Nat) (f : Str) (g : Ox) : Sx := fun E En st => g E st fun o st1 => match st1.ρ[i]? with
  | some (.ins x C fs) => FldOk K C f ∧ fs.length < 1000 ∧ En.nx { st1 with ρ := st1.ρ.set i (.ins x C (putFD f o.toD fs)) }
  | _ => False
theorem pxs_fldI {X : Cx} {K : PySem.W.Frag} {i : Nat} {f : Str} {e : Expr} {s : Stmt} {g : Ox} (h : ∀ {t : TE}, PE X e t → PS X s (sFld K (tVar i) t f)) (hg : PO X e g) : PXS X s (sFldI K i f g) := fun c l => psOf (h (hg c l)) fun D σ H ⟨W, st, H1, En, hH, P, ek, q⟩ =>
  ⟨W, st, H1, _, hH, P, q, fun o st1 v W1 H2 q1 s1 P1 ov => by
    obtain ⟨W3, s3, P3, r, eL⟩ := OV.plain P1 ov
    split at q1
    · rename_i x C fs hs
      obtain ⟨a, e1, rfl, dx, xs, e2, e3⟩ := P3.slot i _ hs
      have e1 := join_ref e1
      have so : slotOwns st1.ρ σ i x := ⟨_, hs, rfl, e1⟩
      refine ⟨_, e1, x, C, dx, xs, rfl, by rw [← eL]; exact P3.nol e2 rfl, q1.1.cl, q1.1.no, by rw [e3.length]; exact q1.2.1, ?_⟩
      rw [← eL, lock_upd (P3.lown (P3.sown i x so).1 (P3.sown i x so).2.1)]
      refine ek.1 _ _ _ _ q1.2.2 (P3.mutate hs rfl e1 rfl fun fu => ⟨rfl, dx, _, upd_same, RepF.put (r.fut fu) (e3.fut fu)⟩) ((P.aft (s1.trans s3)).trans ⟨fut_mut W3 (P3.sown i x so).1 e2 rfl, [], rfl⟩)
    · exact q1.elim⟩
/-! ### C(..) -/
/-- making an instance: the new instance is plain data -/
def xMk (C : Addr) (rw : Bool) (np : Nat) (m : MI) (ga : Ax) : Ox := fun E st Q => ga E st fun rs st1 => (rw = true → st1.rw = true) ∧ opt (frzs st1 rs) fun q => q.1.length = np ∧ ∀ x, m x [] q.1 (fun C fs S' => E C fs { q.2 with S := S' }) q.2.S fun fs S' => Q (.d (.ins C fs)) { q.2 with S := S' }
def MakeSpJ (J : TA → Prop) (X : Cx) (ee : Expr) (C : Addr) (sp : Sp) : Prop := ∀ (Ew : WX), Takes X Ew → ∀ {t : TA}, J t → PE X ee (fun σ H Q => t σ H fun vs H1 => ∀ x dx, H1 x = none → H1 dx = none → dx ≠ x → sp (.ref x :: vs) (upd (upd H1 dx (.own x)) x (.ins C dx [])) (fun v H2 => v = .non ∧ Q (.ref x) H2) (WE Ew σ))
abbrev MakeSp (X : Cx) (ee : Expr) (es : List Expr) (C : Addr) (sp : Sp) : Prop := MakeSpJ (PA X es) X ee C sp
theorem po_MkJ {J : TA → Prop} {X : Cx} {ee : Expr} {C : Addr} {rw : Bool} {np : Nat} {m : MI} {ga : Ax} (h : MakeSpJ J X ee C (spI C rw np m)) (ha : ∀ c, Lk X c → J (tXA c ga)) : PO X ee (xMk C rw np m ga) := fun c l => peOf (h (wish c) l (ha c l)) fun σ H Q ⟨W, st, H1, Q0, hH, P, q, k⟩ =>
  ⟨W, st, H1, _, hH, P, q, fun rs st1 vs W1 H2 q1 s1 P1 rvs => fun x dx hx hdx hne => by
    obtain ⟨hrw, q1⟩ := q1
    obtain ⟨y, e, hn, q1⟩ := opt_ex q1
    obtain ⟨W2, s2, P2, r2, eL⟩ := frzs_ok P1 e rvs
    rw [← eL] at hx hdx ⊢
    obtain ⟨x1, x2⟩ := P2.lnone' hx
    obtain ⟨d1, d2⟩ := P2.lnone' hdx
    obtain ⟨sa, Pa, a1, a2, a3, a4, a5⟩ := P2.fresh (o := .own x) d1
    have x1' : upd H2 dx (.own x) x = none := by rw [upd_ne (Ne.symm hne)]; exact x1
    obtain ⟨sb, Pb, b1, b2, b3, b4, b5⟩ := Pa.fresh (o := .ins C dx []) x1'
    have up : ∀ {W' H' H''}, Step rw W2 H' W' H'' → Step c.rw W2 H' W' H'' := fun {W' H' H''} s => by
      cases rw with
      | false => exact s.up
      | true =>
        have e : c.rw = true := P1.hrw.symm.trans (hrw rfl)
        rw [e]
        exact s
    have fb : Fut W2.φ W2.F H2 W2.φ W2.F (upd (upd H2 dx (.own x)) x (.ins C dx [])) := (P2.fut sa).trans (Pa.fut sb)
    have sd : ∀ {W' H3}, Step c.rw W2 (hDel (upd (upd H2 dx (.own x)) x (.ins C dx [])) x) W' H3 → Step c.rw W2 H2 W' H3 := fun {W' H3} s => by
      refine ⟨s.cells, s.sub, fun a o e n => s.keep a o ?_ n, fun a xs e => s.tups a xs ?_, fun a e => s.dom a ?_, fun a h => (s.ownNew a h).elim .inl fun z => .inr ⟨z.1, ?_⟩, s.locks, s.ownOld⟩
      · have nx : a ≠ x := ne_of_none e x1
        have nd : a ≠ dx := ne_of_none e d1
        rw [del_ne nx, upd_ne nx, upd_ne nd]
        exact e
      · have nx : a ≠ x := ne_of_none e x1
        have nd : a ≠ dx := ne_of_none e d1
        rw [del_ne nx, upd_ne nx, upd_ne nd]
        exact e
      · have nx : a ≠ x := fun z => e (by rw [z]; exact x1)
        have nd : a ≠ dx := fun z => e (by rw [z]; exact d1)
        rw [del_ne nx, upd_ne nx, upd_ne nd]
        exact e
      · have z := z.2
        by_cases nx : a = x
        · rw [nx]; exact x1
        · rw [del_ne nx, upd_ne nx] at z
          by_cases nd : a = dx
          · rw [nd]; exact d1
          · rw [upd_ne nd] at z
            exact z
    have nw : ∀ {W' : Wd}, (∀ a, W'.F a → W2.F a ∨ hDel (upd (upd H2 dx (.own x)) x (.ins C dx [])) x a = none) → ∀ a, W'.F a → W2.F a ∨ H2 a = none := fun {W'} n a h => (n a h).elim .inl fun z => .inr (by
      by_cases nx : a = x
      · rw [nx]; exact x1
      · rw [del_ne nx, upd_ne nx] at z
        by_cases nd : a = dx
        · rw [nd]; exact d1
        · rw [upd_ne nd] at z
          exact z)
    refine ⟨W2, y.2.S, upd (upd H2 dx (.own x)) x (.ins C dx []), x, dx, [], [], vs, y.1, _, _, rfl, ?_, Pb.base.to (fun z => P1.hrw.symm.trans (hrw z)), upd_same, .nil, b1, b2, r2.fut fb, hn, q1 x, fun fs S' xs dx' W' H3 q0 s n B el hx' rf nF no => ⟨rfl, ?_⟩, fun C' fs S' od W' H3 q0 s n B el ex => ?_⟩
    · rw [lock_upd d2, lock_upd x2]
    · have st3 := sd (up s)
      have P3 := P2.call st3 (nw n) (P2.base.back B el st3 (fun z => s.own0 z) (nw n))
      have xr : ¬ c.R x := fun z => by
        obtain ⟨_, _, ⟨u, e⟩, _⟩ := P2.rsv x z
        rw [x1] at e
        cases e
      have xs' : ∀ i, ¬ slotOwns y.2.ρ σ i x := fun i z => by
        obtain ⟨u, e, _⟩ := P2.sthere z
        rw [x1] at e
        cases e
      have x0 : c.H0 x = none := Classical.byContradiction fun z => P2.step.dom x z x1
      obtain ⟨s4, P4⟩ := P3.freeze0 (p := x) no x0 xs' xr ⟨_, hx'⟩
      have fin := k _ _ (V.ref x) _ _ q0 (((s1.trans s2).trans st3).trans s4) P4 (show Rp (W'.add x) H3 (.ref x) (.ins C fs) from .ins (.inr rfl) hx' (rf.fut (P3.fut s4)))
      rw [show (W'.add x).L = W2.L from el] at fin
      exact fin
    · exact ⟨W', _, H3, C', fs, by rw [el], P2.call (sd (up s)) (nw n) (P2.base.back B el (sd (up s)) (fun z => s.own0 z) (nw n)), rfl, ex, q0⟩⟩
theorem po_Mk {X : Cx} {ee : Expr} {es : List Expr} {C : Addr} {rw : Bool} {np : Nat} {m : MI} {ga : Ax} (h : MakeSp X ee es C (spI C rw np m)) (ha : PXA X es ga) : PO X ee (xMk C rw np m ga) := po_MkJ h ha
end Q
namespace Q
open PySem L2 PySem.Spec PyProof.Rows
section
variable {X : Cx}
/-! ### C(..) -/
theorem run_mkS {C f : Addr} {k : Nat} {sp : Sp} {E : L2.St → XK} {pins : List (Addr × Obj)} {σ : L2.St} {H : Hp} {s : Shared} {Q : VK} {us : List Value} {vs : List V} (M : Mk X.K C f) (F : FnS X k f sp) (hr : Room (k + 1) X.A) (hx : PassesAt (L2.CX X.prog X.w) X σ (E σ)) (I : L2.Inv X pins σ H s) (r : Vals vs us)
    (h : ∀ x dx, H x = none → H dx = none → dx ≠ x → sp (.ref x :: vs) (upd (upd H dx (.own x)) x (.ins C dx [])) (fun v H2 => v = .non ∧ Q (.ref x) H2) (E σ)) : wpAny (model X.prog X.w) X.A (call (.ref C) us) (EP X pins σ Q) X.xe s := by
  have hq := h _ s.heap.objs.size (I.hok.fresh (Nat.le_succ s.heap.objs.size)) (I.hok.fresh (Nat.le_refl _)) (Nat.ne_of_lt (Nat.lt_succ_self _))
  have J := L2.Inv.made (C := C) I
  refine wpAny_call (make_map (f := f) I.kIn M.makes M.init (beq_iff_eq.mp M.fn) (codeAny_mono (F _ X.stack _ _ (Value.ref (s.heap.objs.size + 1) :: us) _ _ (E σ) (hr.make C us []) (J.env0.make C us []) (Paired.cons (a := V.ref (s.heap.objs.size + 1)) rfl r) hq) fun res s' z => ?_))
  cases res with
  | error e => exact hx pins _ _ e s' J z
  | ok fl =>
    cases fl with
    | ret u =>
      obtain ⟨v, H', J3, rv, ev, q3⟩ := J.after z
      subst ev
      exact ⟨rv, V.ref (s.heap.objs.size + 1), H', J3, rfl, q3⟩
    | next => exact z.elim
    | brk => exact z.elim
    | cont => exact z.elim
theorem make_sp {C f : Addr} {k : Nat} {sp : Sp} {x : Str} {p pos : Pos} {e : Expr} {es : List Expr} (M : Mk X.K C f) (F : FnS X k f sp) (hr : Room (k + 1) X.A) (hg : Gl X x) (hm : X.mg x = some (.ref C)) (hdb : (x == ("__debug__" : Str)) = false := by decide) (he : starEach (e :: es) X.env = (false, eval e X.env) :: starEach es X.env := by rfl) (hpl : (backTo pos (starEach es X.env)).any (·.1) = false := by rfl) : MakeSp X (.Call (.Name x p) (e :: es) [] pos) (e :: es) C sp :=
  fun Ew tk {t} ha => ⟨fun pins s σ H Q I h => wpAny_Call_Name_kw (ld_glob I hg hm (PySem.W.callWith_K (h₀ := X.base) I.ok.mod.kin M.kp (thn (ha.run pos pins s σ H _ I h) fun us s1 ⟨vs, H1, I1, r, q⟩ => ⟨I1.kIn, run_mkS (E := WE Ew) M F hr (passAt tk σ) I1 r q⟩) he hpl) hdb)⟩
/-! ### defs with *rest -/
end
end Q
namespace Q
open PySem L2 PySem.Spec PyProof.Rows
/-! ### the tables of databases, read as plain data where nothing is changed -/
theorem Pre.db {c : C0} {W : Wd} {st : Ps} {σ : L2.St} {H : Hp} (P : Pre c W st σ H) {n : Nat} {a r : Addr} {x C : Addr} {sch : D} {rows : List (Str × List (List Key))} (e : W.φ[n]? = some (a, r)) (h : st.S[n]? = some (.db x C sch rows)) : ∃ w dx vs kvs ts, W.owns[n]? = some w ∧ w = a :: r :: ts ∧ w.Nodup ∧ H a = some (.ins C dx [("own_schema", vs), ("own_rows", .ref r)]) ∧ Rp W H vs sch ∧ H r = some (.dK kvs) ∧ TabsAt H kvs rows ts ∧ (rows.map (·.1)).Nodup ∧ (∀ x ∈ w, W.own x) ∧ x = a := by
  have hl := P.base.len
  have hn := (List.getElem?_eq_some_iff.mp e).1
  have ho : W.owns[n]? = some (W.owns[n]'(by omega)) := List.getElem?_eq_getElem (by omega)
  obtain ⟨dx, vs, kvs, ts, e1, h1, h2, h3, h4, h5, h6⟩ := P.base.cell n _ _ _ e h ho
  exact ⟨_, dx, vs, kvs, ts, ho, e1, h1, h2, h3, h4, h5, h6.1, fun x hx => ⟨_, List.mem_of_getElem? ho, hx⟩, h6.2⟩
section
variable {X : Cx} {e ee : Expr} {f : Ex} {g : Ox}
mutual
def flD : D → Bool
  | .non => true
  | .bl _ => true
  | .int _ => true
  | .str _ => true
  | .byt _ => true
  | .ty _ => true
  | .cls _ => true
  | .tup ds => flL ds
  | .lst _ => false
  | .dK _ => false
  | .dT _ => false
  | .ins _ _ => false
  | .exc _ _ _ _ => false
  | .cell _ => false
  | .scr _ => false
  | .rows _ => false
def flL : List D → Bool
  | [] => true
  | d :: ds => flD d && flL ds
end
def flO : O → Bool
  | .un => false
  | .d x => flD x
  | .lst xs => flL xs
  | .dK kvs => flL (kvs.map (·.2))
  | .dT kvs => flL (kvs.map (·.2))
  | .ins _ _ fs => flL (fs.map (·.2))
mutual
theorem Rep.flat {φ F H φ' F'} : ∀ {d : D} {v : V}, Rep φ F H v d → flD d = true → Rep φ' F' H v d
  | .non, _, h, _ => by cases h; exact .non
  | .bl b, _, h, _ => by cases h; exact .bl b
  | .int b, _, h, _ => by cases h; exact .int b
  | .str b, _, h, _ => by cases h; exact .str b
  | .byt b, _, h, _ => by cases h; exact .byt b
  | .ty b, _, h, _ => by cases h; exact .ty b
  | .cls b, _, h, _ => by cases h; exact .cls b
  | .cell n, _, h, e => by cases e
  | .rows n, _, h, e => by cases e
  | .lst ds, _, h, e => by cases e
  | .scr ns, _, h, e => by cases e
  | .tup ds, _, h, e => by
    cases h with
    | tup h2 h3 => exact .tup h2 (RepL.flat h3 e)
  | .dK ds, _, h, e => by cases e
  | .dT ds, _, h, e => by cases e
  | .ins C ds, _, h, e => by cases e
  | .exc _ _ _ _, _, h, e => by cases e
theorem RepL.flat {φ F H φ' F'} : ∀ {ds : List D} {vs : List V}, RepL φ F H vs ds → flL ds = true → RepL φ' F' H vs ds
  | [], _, h, _ => by cases h; exact .nil
  | d :: ds, _, h, e => by
    cases h with
    | cons h1 h2 =>
      have e' : (flD d && flL ds) = true := e
      rw [Bool.and_eq_true] at e'
      exact .cons (Rep.flat h1 e'.1) (RepL.flat h2 e'.2)
end
theorem RepK.flat {φ F H φ' F'} : ∀ {ds : List (Key × D)} {vs : List (Key × V)}, RepK φ F H vs ds → flL (ds.map (·.2)) = true → RepK φ' F' H vs ds
  | [], _, h, _ => by cases h; exact .nil
  | (_, d) :: ds, _, h, e => by
    cases h with
    | cons h1 h2 =>
      have e' : (flD d && flL (ds.map (·.2))) = true := e
      rw [Bool.and_eq_true] at e'
      exact .cons (Rep.flat h1 e'.1) (RepK.flat h2 e'.2)
theorem RepT.flat {φ F H φ' F'} : ∀ {ds : List (List Key × D)} {vs : List (List Key × V)}, RepT φ F H vs ds → flL (ds.map (·.2)) = true → RepT φ' F' H vs ds
  | [], _, h, _ => by cases h; exact .nil
  | (_, d) :: ds, _, h, e => by
    cases h with
    | cons h1 h2 =>
      have e' : (flD d && flL (ds.map (·.2))) = true := e
      rw [Bool.and_eq_true] at e'
      exact .cons (Rep.flat h1 e'.1) (RepT.flat h2 e'.2)
theorem RepF.flat {φ F H φ' F'} : ∀ {ds : List (Str × D)} {vs : List (Str × V)}, RepF φ F H vs ds → flL (ds.map (·.2)) = true → RepF φ' F' H vs ds
  | [], _, h, _ => by cases h; exact .nil
  | (_, d) :: ds, _, h, e => by
    cases h with
    | cons h1 h2 =>
      have e' : (flD d && flL (ds.map (·.2))) = true := e
      rw [Bool.and_eq_true] at e'
      exact .cons (Rep.flat h1 e'.1) (RepF.flat h2 e'.2)
theorem OwnAt.flat {W W' : Wd} {H : Hp} {a : Addr} {o : O} (h : OwnAt W H a o) (e : flO o = true) : OwnAt W' H a o := by
  cases o with
  | un => exact h
  | d x => exact h
  | lst _ => obtain ⟨_, h, g⟩ := h; exact ⟨_, h, g.flat e⟩
  | dK _ => obtain ⟨_, h, g⟩ := h; exact ⟨_, h, g.flat e⟩
  | dT _ => obtain ⟨_, h, g⟩ := h; exact ⟨_, h, g.flat e⟩
  | ins _ _ _ => obtain ⟨z, _, _, h, g⟩ := h; exact ⟨z, _, _, h, g.flat e⟩
/-- the cells' things are plain, for a while -/
def Wd.view (W : Wd) : Wd := { W with F := fun a => W.F a ∨ W.own a }
theorem Base.view {W : Wd} {S : List Cell} {H : Hp} (B : Base false W S H) : Base false W.view S H := by
  refine ⟨fun a h => ?_, B.len, fun n a x w h1 h2 h3 => (B.cell n a x w h1 h2 h3).fut ⟨fun _ _ e => e, fun _ h => .inl h, fun _ _ _ e => e, fun _ _ e => e⟩ fun _ _ => rfl, B.apart, (fun z => by cases z), B.lN, fun a o h => ⟨(B.lF a o h).1.elim (fun z => .inl (.inl z)) .inr, (B.lF a o h).2⟩⟩
  rcases h with h | h
  · exact B.fdom a h
  · obtain ⟨o, e, _⟩ := B.own_there h
    exact ⟨o, e⟩
abbrev C0.view (c : C0) : C0 := { c with W0 := c.W0.view, E := E0k }
theorem Pre.view {c : C0} {W : Wd} {st : Ps} {σ : L2.St} {H : Hp} (P : Pre c W st σ H) (hr : st.rw = false) : Pre c.view W.view { st with vw := true } σ H := by
  have hc : c.rw = false := P.hrw.symm.trans hr
  have s := P.step
  have sv : Step c.rw W H W.view H := ⟨fun _ _ e => e, fun _ h => .inl h, fun _ _ e _ => e, fun _ _ e => e, fun _ h => h, fun _ h => .inl h, ⟨[], rfl⟩, fun _ h => .inl h⟩
  refine ⟨P.hrw, ⟨s.cells, fun a h => h.elim (fun z => .inl (s.sub a z)) fun z => (s.ownOld a z).elim .inr fun y => (by rw [hc] at y; cases y), s.keep, s.tups, s.dom, s.ownNew, s.locks, s.ownOld⟩, fun a h => ?_, ?_, P.slen, fun i o h => (P.slot i o h).fut (P.fut sv) fun _ _ _ => rfl, fun i a h => ?_, P.sapart, fun a h => ?_, fun _ => ⟨hc, fun a h => .inr h⟩, P.own0⟩
  · rcases h with h | h
    · exact (P.new a h).elim (fun z => .inl (.inl z)) .inr
    · exact (s.ownNew a h).elim (fun z => .inl (.inr z)) fun z => (by rw [hc] at z; cases z.1)
  · have B := P.base
    rw [hc] at B
    show Base c.rw _ _ _
    rw [hc]
    exact B.view
  · obtain ⟨h1, h2, h3⟩ := P.sown i a h
    exact ⟨fun z => z.elim h1 h2, h2, h3⟩
  · obtain ⟨h1, h2, h3, h4⟩ := P.rsv a h
    exact ⟨fun z => z.elim h1 h2, h2, h3, h4⟩
end
end Q
namespace Q
open PySem L2 PySem.Spec PyProof.Rows
/-! ### dict comprehensions, keys of either kind -/
section
variable {X : Cx} {pins : List (Addr × Obj)} {σ : L2.St} {H : Hp} {s : Shared}
theorem set_any {H' : Hp} {a : Addr} {y v : V} {u r : Value} {E : Value → Shared → Prop} {Q : Unit → Shared → Prop} (hu : X.A.units < cLine) (I : L2.Inv X pins σ H s) (g : DPut H a y v H') (ry : RelV y u) (rv : RelV v r) (k : ∀ s', L2.Inv X pins σ H' s' → Q () s') : wpAny (model X.prog X.w) X.A (dictSet a u r) Q E s := by
  rcases g with ⟨kvs, key, ha, rfl, l, rfl⟩ | ⟨kvs, key, b, ha, rfl, hb, l, rfl⟩
  · exact d_dictSet I ha l ry rv k
  · cases (show u = Value.ref b from ry)
    obtain ⟨z, hd, xs, rel, dd⟩ := dt_of I.hok ha
    refine wpAny_dictSet_heap (hsz := by rw [← Paired.length rel]; exact z) (show (tupleKind (mixKind X.prog X.w)).room X.A from hu) (key_of I.hok hb) dd fun h' new same => k _ ?_
    obtain ⟨q, es, ep, hq, n2, n3, n4, _, n5⟩ := new
    have grown : (putK kvs key v).length ≤ sizeLine := by have := length_putK kvs key v; omega
    exact d_write I (by rw [ha]; exact True.intro) same ⟨q, hq⟩ ⟨grown, hd, _, (rel.put key hb rv).keeps fun c ys ec => by rw [upd_ne (ne_of ec ha (fun z => nomatch z))]; exact ec, q, es, ep, hq, n2, n3, n4, n5⟩
/-- the empty dict, of either kind -/
def noKeys (t : Bool) : HO := if t then .dT [] else .dK []
theorem noKeys_ok (t : Bool) {P : Program} {w : World} {H : Hp} (h : Heap) (hb : sysModules < h.objs.size) : ObjOk P w H (h.push { cls := .type "dict", data := .dict #[] }) h.objs.size (noKeys t) := by
  cases t
  · exact dk_empty h hb
  · exact dt_empty h hb
end
end Q
namespace Q
open PySem L2 PySem.Spec PyProof.Rows
/-! ### a dict gets a key -/
def putD {κ : Type} [DecidableEq κ] (kvs : List (κ × D)) (k : κ) (v : D) : List (κ × D) := if (kvs.any fun kv => decide (kv.1 = k)) = true then kvs.map (fun kv => if kv.1 = k then (kv.1, v) else kv) else kvs ++ [(k, v)]
def dropD {κ : Type} [DecidableEq κ] (kvs : List (κ × D)) (k : κ) : List (κ × D) := kvs.filter fun kv => decide (kv.1 ≠ k)
def putO (o : O) (k v : D) : Option O := match o with
  | .dK kvs => (keyD k).map fun key => .dK (putD kvs key v)
  | .dT kvs => (match k with
    | .tup ks => (keysD ks).map fun key => .dT (putD kvs key v)
    | _ => none)
  | _ => none
def lenO : O → Nat
  | .dK kvs => kvs.length
  | .dT kvs => kvs.length
  | .lst xs => xs.length
  | _ => 0
theorem RepK.any {φ F H} {k : Key} : ∀ {vs : List (Key × V)} {ds : List (Key × D)}, RepK φ F H vs ds → (vs.any fun kv => decide (kv.1 = k)) = (ds.any fun kv => decide (kv.1 = k))
  | _, _, .nil => rfl
  | _, _, .cons h t => by rw [List.any_cons, List.any_cons, t.any]
theorem RepT.any {φ F H} {k : List Key} : ∀ {vs : List (List Key × V)} {ds : List (List Key × D)}, RepT φ F H vs ds → (vs.any fun kv => decide (kv.1 = k)) = (ds.any fun kv => decide (kv.1 = k))
  | _, _, .nil => rfl
  | _, _, .cons h t => by rw [List.any_cons, List.any_cons, t.any]
theorem RepK.mapp {φ F H} {k : Key} {v : V} {d : D} (r : Rep φ F H v d) : ∀ {vs : List (Key × V)} {ds : List (Key × D)}, RepK φ F H vs ds → RepK φ F H (vs.map fun kv => if kv.1 = k then (kv.1, v) else kv) (ds.map fun kv => if kv.1 = k then (kv.1, d) else kv)
  | _, _, .nil => .nil
  | _, _, .cons (k := k') h t => by
    rw [List.map_cons, List.map_cons]
    dsimp only
    split
    · exact .cons r (t.mapp r)
    · exact .cons h (t.mapp r)
theorem RepT.mapp {φ F H} {k : List Key} {v : V} {d : D} (r : Rep φ F H v d) : ∀ {vs : List (List Key × V)} {ds : List (List Key × D)}, RepT φ F H vs ds → RepT φ F H (vs.map fun kv => if kv.1 = k then (kv.1, v) else kv) (ds.map fun kv => if kv.1 = k then (kv.1, d) else kv)
  | _, _, .nil => .nil
  | _, _, .cons (k := k') h t => by
    rw [List.map_cons, List.map_cons]
    dsimp only
    split
    · exact .cons r (t.mapp r)
    · exact .cons h (t.mapp r)
theorem RepK.snoc {φ F H} {k : Key} {v : V} {d : D} (r : Rep φ F H v d) : ∀ {vs : List (Key × V)} {ds : List (Key × D)}, RepK φ F H vs ds → RepK φ F H (vs ++ [(k, v)]) (ds ++ [(k, d)])
  | _, _, .nil => .cons r .nil
  | _, _, .cons h t => .cons h (t.snoc r)
theorem RepT.snoc {φ F H} {k : List Key} {v : V} {d : D} (r : Rep φ F H v d) : ∀ {vs : List (List Key × V)} {ds : List (List Key × D)}, RepT φ F H vs ds → RepT φ F H (vs ++ [(k, v)]) (ds ++ [(k, d)])
  | _, _, .nil => .cons r .nil
  | _, _, .cons h t => .cons h (t.snoc r)
theorem RepK.put {φ F H} {k : Key} {v : V} {d : D} {vs : List (Key × V)} {ds : List (Key × D)} (h : RepK φ F H vs ds) (r : Rep φ F H v d) : RepK φ F H (putK vs k v) (putD ds k d) := by
  unfold putK putD
  rw [h.any]
  split
  · exact h.mapp r
  · exact h.snoc r
theorem RepT.put {φ F H} {k : List Key} {v : V} {d : D} {vs : List (List Key × V)} {ds : List (List Key × D)} (h : RepT φ F H vs ds) (r : Rep φ F H v d) : RepT φ F H (putK vs k v) (putD ds k d) := by
  unfold putK putD
  rw [h.any]
  split
  · exact h.mapp r
  · exact h.snoc r
theorem RepK.drop {φ F H} {k : Key} : ∀ {vs : List (Key × V)} {ds : List (Key × D)}, RepK φ F H vs ds → RepK φ F H (dropK vs k) (dropD ds k)
  | _, _, .nil => .nil
  | _, _, .cons (k := k') (v := v) (d := d) (vs := vs) (ds := ds) h t => by
    unfold dropK dropD
    rw [List.filter_cons, List.filter_cons]
    dsimp only
    split
    · exact .cons h t.drop
    · exact t.drop
theorem RepT.drop {φ F H} {k : List Key} : ∀ {vs : List (List Key × V)} {ds : List (List Key × D)}, RepT φ F H vs ds → RepT φ F H (dropK vs k) (dropD ds k)
  | _, _, .nil => .nil
  | _, _, .cons (k := k') (v := v) (d := d) (vs := vs) (ds := ds) h t => by
    unfold dropK dropD
    rw [List.filter_cons, List.filter_cons]
    dsimp only
    split
    · exact .cons h t.drop
    · exact t.drop
theorem put_ok {c : C0} {W : Wd} {st : Ps} {σ : L2.St} {H : Hp} (P : Pre c W st σ H) {a : Addr} {o o' : O} {y z : V} {k d : D} (h : OwnAt W H a o) (hl : W.L.lookup a = none) (ty : Top W.φ W.F H y k) (rz : Rp W H z d) (hz : lenO o < sizeLine) (e : putO o k d = some o') :
    ∃ u u', H a = some u ∧ mutO u = true ∧ DPut (lockH W.L H) a y z (upd (lockH W.L H) a u') ∧ o'.owned = true ∧ o.owned = true ∧ (Fut W.φ W.F H W.φ W.F (upd H a u') → OwnAt W (upd H a u') a o') := by
  cases o with
  | dK kvs =>
    obtain ⟨key, e1, rfl⟩ := Option.map_eq_some_iff.mp e
    obtain ⟨xs, h1, h2⟩ := h
    have := key_rep ty e1
    subst this
    exact ⟨_, .dK (putK xs key z), h1, rfl, .k ((lock_at hl).trans h1) (by rw [h2.length]; exact hz), rfl, rfl, fun f => ⟨_, upd_same, (h2.put rz).fut f⟩⟩
  | dT kvs =>
    cases k with
    | tup ks =>
      obtain ⟨key, e1, rfl⟩ := Option.map_eq_some_iff.mp e
      obtain ⟨xs, h1, h2⟩ := h
      cases ty with
      | tup t1 t2 =>
        have := keys_rep t2 e1
        subst this
        exact ⟨_, .dT (putK xs key z), h1, rfl, .t ((lock_at hl).trans h1) (P.nol t1 rfl) (by rw [h2.length]; exact hz), rfl, rfl, fun f => ⟨_, upd_same, (h2.put rz).fut f⟩⟩
    | _ => cases e
  | _ => cases e
/-! ### {k: v for ..} -/
def dcW (tg : Tg) (tt : Tx) (fk fv : Ex) (vs : List Nat) (Q : O → Ps → Prop) : List D → O → Ps → Prop
  | [], acc, st => Q acc (st.wp vs)
  | d :: ds, acc, st => tg d (st.wp vs) fun st2 => tt E0k st2 fun b st3 => if b = true then fk E0k st3 fun r st4 => opt (frz st4 r) fun q => fv E0k q.2 fun r2 st5 => opt (frz st5 r2) fun q2 => lenO acc < sizeLine ∧ opt (putO acc q.1 q2.1) fun acc' => dcW tg tt fk fv vs Q ds acc' q2.2 else dcW tg tt fk fv vs Q ds acc st3
def noKeysO (t : Bool) : O := if t then .dT [] else .dK []
def xDc (t : Bool) (fi : Ix) (tg : Tg) (tt : Tx) (fk fv : Ex) (vs : List Nat) : Ox := fun E st Q => fi E st fun ds st1 => dcW tg tt fk fv vs Q ds (noKeysO t) st1
theorem noKeys_own (t : Bool) {W : Wd} {H : Hp} {D : Addr} : OwnAt W (upd H D (noKeys t)) D (noKeysO t) := by
  cases t
  · exact ⟨[], upd_same, .nil⟩
  · exact ⟨[], upd_same, .nil⟩
end Q
namespace Q
open PySem L2 PySem.Spec PyProof.Rows
/-! ### defs with *rest -/
section
variable {P : Program} {w : World} {K : PySem.W.Frag} {mg : Str → Option Value} {base : Heap}
theorem Base.lnone {rw : Bool} {W : Wd} {S : List Cell} {H : Hp} (B : Base rw W S H) {p : Addr} (h : lockH W.L H p = none) : H p = none ∧ W.L.lookup p = none := by
  have h1 := lock_none h
  refine ⟨h1, ?_⟩
  cases e : W.L.lookup p with
  | none => rfl
  | some o =>
    obtain ⟨_, u, q, _⟩ := B.lF p o e
    rw [h1] at q
    cases q
theorem upd_none {H : Hp} {p a : Addr} {o : HO} (h : upd H p o a = none) : H a = none := by
  unfold upd at h
  split at h
  · cases h
  · exact h
end
end Q
/-! tuple(d), dict(pairs), dict(d) -/
namespace Q
open PySem L2 PySem.Spec PyProof.Rows
section
variable {prog : Program} {w : World} {A : Around} {E : Value → Shared → Prop} {s : Shared} {r d : Addr} {n : Nat} {P : Nat → Value → Prop} {OK : Heap → Prop}
theorem code_tuple_src {Q₁ : Value → Shared → Prop} (S : PySem.W.KdlSrc prog w "dict" r d n P OK) (hh : A.handled = none) (hok : OK s.heap) (hn : n ≤ sizeLine)
    (h : ∀ (h' : Heap) (tk : Nat) (acc : Array Value), (∀ b o, s.heap.get? b = some o → h'.get? b = some o) → ItemsOf P acc n → Q₁ (.ref h'.objs.size) { s with heap := h'.push { cls := .type "tuple", data := .seq acc }, toks := tk }) :
    codeAny (model prog w) A (.call (.builtin "tuple.__new__") ⟨[.type "tuple", .ref r], []⟩) (wants Q₁ E) s := by
  refine codeAny_of_tree ?_
  show wpAny _ A.in1 (checkBuiltinCall "tuple.__new__" ⟨[.type "tuple", .ref r], []⟩ >>= fun _ => again (.builtin "tuple.__new__" ⟨[.type "tuple", .ref r], []⟩)) _ _ s
  refine wpAny_bind (wpAny_of_eq (F.newCall_tuple_1 _) (wpAny_pure ⟨plainId_quiet F.plain_tuple_new _, codeAny_builtin F.entry_tuple_new ?_⟩))
  rw [Around.under_plainId F.plain_tuple_new _]
  have t1 := sub_tuple_self
  have t2 := init_tuple_lookup
  have t3 := madeHere_tuple
  have t4 : s.TypeIs (.ref r) "dict" := S.type _ hok
  have t5 : A.in1.handled = none := hh
  wp_walk using wpAny_typeOf t4, PySem.W.kdu_collect (A := A.in1) S t5 hok hn
  intro h' tk acc hk hacc
  show wpAny _ _ (Builtin.Tuple.tupleExact acc.toList.toArray >>= fun v => ret v) _ _ _
  rw [show acc.toList.toArray = acc by simp]
  unfold Builtin.Tuple.tupleExact
  exact wpAny_bind (wpAny_newObj_type (wpAny_pure (h h' tk acc hk hacc)) (by show acc.size ≤ sizeLine; rw [hacc.1]; exact hn))
theorem call_tuple_src {Q : Value → Shared → Prop} (S : PySem.W.KdlSrc prog w "dict" r d n P OK) (hh : A.handled = none) (hok : OK s.heap) (hn : n ≤ sizeLine)
    (h : ∀ (h' : Heap) (tk : Nat) (acc : Array Value), (∀ b o, s.heap.get? b = some o → h'.get? b = some o) → ItemsOf P acc n → Q (.ref h'.objs.size) { s with heap := h'.push { cls := .type "tuple", data := .seq acc }, toks := tk }) :
    wpAny (model prog w) A (call (.type "tuple") [.ref r]) Q E s := by
  refine callType_codes (Q₁ := fun o s₁ => s₁.TypeIs o "tuple" ∧ Q o s₁) F.called_tuple (F.typeCall_tuple_1 _) F.entry_object_init ?_ fun o s₁ z => ?_
  · exact code_tuple_src (A := A.in1) S hh hok hn fun h' tk acc hk hacc => ⟨⟨_, Heap.get?_push_size _ rfl, rfl⟩, h h' tk acc hk hacc⟩
  · exact ⟨z.1, F.args_object_init_2 o _, object_init_meets F.called_tuple.init.lookup F.called_tuple.made (by decide) prog w A.in1 _ s₁ ⟨z.1, rfl, z.2⟩⟩
end
def rTupD : List V → Hp → VK → Prop := fun xs H Q => ∃ p kvs, xs = [.ref p] ∧ Rd H p (.dK kvs) ∧ ∀ q, H q = none → Q (.ref q) (upd H q (.tup (kvs.map fun kv => kV kv.1)))
theorem call_tuple_dK {X : Cx} (hc : X.calm = true) : CallR X (.type "tuple") rTupD := by
  intro pins s σ H xs us Q I r h
  obtain ⟨p, kvs, rfl, hk, q⟩ := h
  obtain ⟨u, rfl, rx⟩ := vals1 r
  cases rx
  obtain ⟨z, lo, vs, rk, hd⟩ := dk_rd I.hok hk
  obtain ⟨ep, hat⟩ := hd.dictAt
  have hl : kvs.length = vs.length := Paired.length rk
  refine call_tuple_src (PySem.W.kdl_dict (knd := mixKind X.prog X.w) (kvs := vs) (ep := ep) lo) (I.ok.hd hc) hat (by omega) fun h' tk acc hkeep hacc => ?_
  have I2 : L2.Inv X pins σ H { s with heap := h', toks := tk } := I.kept hkeep
  refine ⟨.ref h'.objs.size, upd H h'.objs.size (.tup (kvs.map fun kv => kV kv.1)), I2.laid (t' := tk) (fun b o e => Heap.get?_push_of_some _ e) (Nat.le_refl _) ?_, rfl, q _ (I2.hok.fresh (Nat.le_refl _))⟩
  refine (show ObjOk X.prog X.w _ _ _ (.tup (kvs.map fun kv => kV kv.1)) from ⟨by rw [List.length_map]; exact z, acc.toList, ?_, ?_⟩)
  · have el : acc.toList.length = acc.size := by simp
    refine vals_of_at (by rw [List.length_map, el, hacc.1, hl]) fun j x w h1 h2 => ?_
    obtain ⟨k, y, hky, hi⟩ := hacc.2 j w (by rw [← Array.getElem?_toList]; exact h2)
    have e1 : (kvs.map (·.1))[j]? = some k := by
      rw [KV.keys rk, List.getElem?_map, hky]
      rfl
    have e2 : (kvs.map fun kv => kV kv.1)[j]? = some (kV k) := by
      rw [show (kvs.map fun kv => kV kv.1) = (kvs.map (·.1)).map kV by rw [List.map_map]; rfl, List.getElem?_map, e1]
      rfl
    rw [e2] at h1
    cases h1
    exact keyIs_rel hi
  · rw [Array.toArray_toList]
    exact PyProof.Rows.IsTup.new _ _
section
variable {X : Cx}
theorem RepK.keysR {φ F H} (φ' : List (Addr × Addr)) (F' : Addr → Prop) (H' : Hp) : ∀ {vs : List (Key × V)} {ds : List (Key × D)}, RepK φ F H vs ds → RepL φ' F' H' (vs.map fun kv => kV kv.1) (ds.map fun kv => kD kv.1)
  | _, _, .nil => .nil
  | _, _, .cons (k := k) h t => .cons (kD_rep _ _ _ k) (t.keysR φ' F' H')
def tupG : Gc := fun ds J => match ds with
  | [.lst xs] => J (.d (.tup xs))
  | [.tup xs] => J (.d (.tup xs))
  | [.dK kvs] => J (.d (.tup (kvs.map fun kv => kD kv.1)))
  | _ => False
theorem cTuple (K : PySem.W.Frag) (hc : X.calm = true) (h : X.K = K := by rfl) : CallR X (.type "tuple") (fun xs H Q => rTupleQ K xs H Q ∨ rTupD xs H Q) := by
  subst h
  exact call_tuple_of.or (call_tuple_dK hc)
theorem g_tup (K : PySem.W.Frag) : CallG (fun xs H Q => rTupleQ K xs H Q ∨ rTupD xs H Q) tupG := fun c W st σ H vs ds Q J P t g k => by
  unfold tupG at g
  split at g
  · exact .inl (g_tuple K c W st σ H vs _ Q J P t g k)
  · exact .inl (g_tuple K c W st σ H vs _ Q J P t g k)
  · obtain ⟨v, rfl, t1⟩ := tops_1 t
    cases t1 with
    | dK h1 r1 => exact .inr ⟨_, _, rfl, lock_rd h1, (k _ g).newT P (r1.keysR _ _ _)⟩
  · exact g.elim
/-! ### dict(..) -/
end
end Q
namespace Q
open PySem L2
/-! ### the pen: the one object that draws change -/
/-- all but p is as it was -/
def Sb (p : Addr) (H H' : Hp) : Prop := ∀ a o, H a = some o → a ≠ p → H' a = some o
theorem Sb.trans {p : Addr} {H H1 H2 : Hp} (a : Sb p H H1) (b : Sb p H1 H2) : Sb p H H2 := fun c o e n => b c o (a c o e n) n
theorem Sb.of {p : Addr} {H H' : Hp} (h : Same H H') : Sb p H H' := fun a o e _ => h a o e
theorem sm_pen {H : Hp} {p : Addr} {u o : HO} (h : H p = some u) : Sb p H (upd H p o) := fun a v e n => by
  rw [upd_ne n]
  exact e
/-- the pen at p, its cells at c, at most n draws made -/
structure Pen (H : Hp) (p c : Addr) (n : Nat) : Prop where
  ex : ∃ (cells : List Int) (t l : Int), H p = some (.dK (penK c t l)) ∧ H c = some (.lst (cells.map V.int)) ∧ cells.length ≤ 63 ∧ 0 ≤ t ∧ t ≤ (n : Int) ∧ 0 ≤ l
abbrev kC : Key := Sum.inr ("cells" : Str)
abbrev kT : Key := Sum.inr ("turn" : Str)
abbrev kL : Key := Sum.inr ("left" : Str)
theorem k_lc : ¬ kC = kL := by decide +kernel
theorem k_lt : ¬ kT = kL := by decide +kernel
theorem k_tc : ¬ kC = kT := by decide +kernel
theorem k_tl : ¬ kL = kT := by decide +kernel
theorem pen_left (c : Addr) (t l : Int) : valV (penK c t l) kL = some (.int l) := by
  unfold penK
  rw [valV_neg (show ¬ (kC, V.ref c).1 = kL from k_lc), valV_neg (show ¬ (kT, V.int t).1 = kL from k_lt), valV_pos rfl]
theorem pen_turn (c : Addr) (t l : Int) : valV (penK c t l) kT = some (.int t) := by
  unfold penK
  rw [valV_neg (show ¬ (kC, V.ref c).1 = kT from k_tc), valV_pos rfl]
theorem pen_cells (c : Addr) (t l : Int) : valV (penK c t l) kC = some (.ref c) := by
  unfold penK
  rw [valV_pos rfl]
theorem pen_len (c : Addr) (t l : Int) : (penK c t l).length < sizeLine := sizeLine_lt (show 3 ≤ 100000 by decide)
theorem ite_next {b : Bool} {A B N : Prop} (hN : N) (hA : N → b = true → A) : if b = true then A else (if false = true then B else N) := by
  cases b
  · exact iteF (iteF hN)
  · exact iteT (hA hN rfl)
theorem put_left (c : Addr) (t l m : Int) : putK (penK c t l) kL (.int m) = penK c t m := by
  have e : ((penK c t l).any fun kv => decide (kv.1 = kL)) = true := by rw [valV_any, pen_left]; rfl
  unfold putK
  rw [if_pos e]
  show [if kC = kL then _ else _, if kT = kL then _ else _, if kL = kL then _ else _] = _
  rw [if_neg k_lc, if_neg k_lt, if_pos rfl]
theorem put_turn (c : Addr) (t l m : Int) : putK (penK c t l) kT (.int m) = penK c m l := by
  have e : ((penK c t l).any fun kv => decide (kv.1 = kT)) = true := by rw [valV_any, pen_turn]; rfl
  unfold putK
  rw [if_pos e]
  show [if kC = kT then _ else _, if kT = kT then _ else _, if kL = kT then _ else _] = _
  rw [if_neg k_tc, if_neg k_tl, if_pos rfl]
theorem dpAll_ints {K : PySem.W.Frag} {H : Hp} : ∀ xs : List Int, DpAll K H (xs.map V.int) (xs.map PyData.int)
  | [] => .nil
  | x :: xs => .cons (.int x) (dpAll_ints xs)
theorem canLay_ints : ∀ xs : List Int, PyData.canLayAll0 (xs.map PyData.int) = true
  | [] => rfl
  | x :: xs => by
    rw [List.map_cons]
    unfold PyData.canLayAll0
    rw [canLay_ints xs]
    rfl
theorem depth_ints : ∀ (xs : List Int), PyData.depthAll (xs.map PyData.int) = 0
  | [] => rfl
  | x :: xs => by
    rw [List.map_cons]
    unfold PyData.depthAll
    rw [depth_ints xs]
    rfl
theorem shaped_ints (xs : List Int) : SeqAt.shaped (.list (xs.map PyData.int)) = true := by
  unfold SeqAt.shaped PyData.canLay0 PyData.depth
  rw [canLay_ints, depth_ints]
  rfl
theorem primes_at (i : Int) (h0 : 0 ≤ i) (h1 : i < 5) : ∃ q : Int, atI [V.int 2147483629, V.int 2147483647, V.int 2147483587, V.int 2147483563, V.int 2147483579] i = some (.int q) ∧ 0 < q ∧ q < 4294967296 := by
  obtain rfl | rfl | rfl | rfl | rfl : i = 0 ∨ i = 1 ∨ i = 2 ∨ i = 3 ∨ i = 4 := by omega
  all_goals exact ⟨_, rfl, by decide, by decide⟩
theorem mod_small {x q : Int} (h0 : 0 < q) (h1 : q < 4294967296) : -(2 ^ 64) < x % q ∧ x % q < 2 ^ 64 := by
  have h2 : 0 ≤ x % q := Int.emod_nonneg _ (by omega)
  have h3 : x % q < q := Int.emod_lt_of_pos _ h0
  omega
theorem at_mod {xs : List Int} {t : Int} (ht : 0 ≤ t) (hl : 0 < xs.length) : ∃ x : Int, atI (xs.map V.int) (t % (xs.length : Int)) = some (.int x) := by
  have h0 : 0 ≤ t % (xs.length : Int) := Int.emod_nonneg _ (by omega)
  have h1 : t % (xs.length : Int) < (xs.length : Int) := Int.emod_lt_of_pos _ (by omega)
  obtain ⟨j, hj⟩ := Int.eq_ofNat_of_zero_le h0
  rw [hj] at h1 ⊢
  have hj2 : j < xs.length := by omega
  exact ⟨xs[j], atI_nat (by rw [List.getElem?_map, List.getElem?_eq_getElem hj2]; rfl)⟩
def spPen (K : PySem.W.Frag) : Sp := fun vs H Q _ => ∃ (a : Addr) (ns : List Int), vs = [.ref a] ∧ SqL K H a (ns.map V.int) ∧ ns.length ≤ 63 ∧ ∀ p c H', H p = none → H c = none → p ≠ c → Same H H' → Pen H' p c 0 → Q (.ref p) H'
def spDraw : Sp := fun vs H Q _ => ∃ (p c : Addr) (n : Nat) (span : Int), vs = [.ref p, .int span] ∧ Pen H p c n ∧ n < 2 ^ 60 ∧ 0 < span ∧ span < 1000 ∧ ∀ d H', 0 ≤ d → d < span → Sb p H H' → Pen H' p c (n + 1) → Q (.int d) H'
/-- a list of the module -/
def KL (K : PySem.W.Frag) (a : Addr) (ns : List Int) : Prop := ∃ (o : Obj) (its : Array Value) (n : Nat), K.lookup a = some o ∧ o.cls = .type "list" ∧ o.dict = none ∧ o.data = .seq its n ∧ its.size ≤ sizeLine ∧ Vals (ns.map V.int) its.toList
/-- the script: a list, or one of the module's own -/
def ScrD (K : PySem.W.Frag) (d : D) (ns : List Int) : Prop := d = .scr ns ∨ ∃ a, d = .cls a ∧ KL K a ns
def m__law_pen (K : PySem.W.Frag) : MF := fun ds E S Q => match ds with
  | [d] => ∃ ns, ScrD K d ns ∧ ns.length ≤ 63 ∧ Q (.d (.cell S.length)) (S ++ [.pen 0])
  | _ => False
def m__law_draw : MF := fun ds E S Q => match ds with
  | [.cell i, .int span] => (match S[i]? with
    | some (.pen n) => n < 2 ^ 60 ∧ 0 < span ∧ span < 1000 ∧ ∀ d : Int, 0 ≤ d → d < span → Q (.d (.int d)) (S.set i (.pen (n + 1)))
    | _ => False)
  | _ => False
/-- the heap without the locks -/
def unlock (L : List (Addr × Obj)) (H1 H' : Hp) : Hp := fun b => match L.lookup b with
  | some _ => H1 b
  | none => H' b
theorem unlock_lock {L : List (Addr × Obj)} {H1 H' : Hp} (h : ∀ b o, L.lookup b = some o → lockH L H1 b = H' b) : lockH L (unlock L H1 H') = H' := by
  funext b
  unfold lockH unlock
  cases e : L.lookup b with
  | none => rfl
  | some o =>
    have := h b o e
    unfold lockH at this
    rw [e] at this
    exact this
theorem Base.own_free {W : Wd} {S : List Cell} {H : Hp} (B : Base true W S H) {a : Addr} (h : W.own a) : W.L.lookup a = none := by
  cases e : W.L.lookup a with
  | none => rfl
  | some o => exact ((B.lF a o e).1.elim (B.ownF rfl a h) fun z => by cases z.1).elim
theorem Base.nol {rw : Bool} {W : Wd} {S : List Cell} {H : Hp} (B : Base rw W S H) {a : Addr} {u : HO} (h : H a = some u) (hd : dictO u = false) : W.L.lookup a = none := by
  cases e : W.L.lookup a with
  | none => rfl
  | some o =>
    obtain ⟨_, x, e1, e2⟩ := B.lF a o e
    rw [h] at e1
    cases e1
    rw [hd] at e2
    cases e2
theorem draw_sp {vs : List V} {H : Hp} {Q : VK} {E : XK} (h : spM true 2 m__law_draw vs H Q E) : spDraw vs H Q E := by
  obtain ⟨W, S, H1, ds, Q0, E0, rfl, B, r, hl, q, kr, ke⟩ := h
  unfold m__law_draw at q
  split at q
  · rename_i i span
    split at q
    · rename_i n hS
      obtain ⟨hn, h0, h1, q⟩ := q
      cases r with
      | cons r1 r2 =>
        cases r2 with
        | cons r3 r4 =>
          cases r4
          cases r3
          cases r1 with
          | cell e =>
            rename_i p rr
            have hll := B.len
            have hi := (List.getElem?_eq_some_iff.mp e).1
            have hw : W.owns[i]? = some (W.owns[i]'(by omega)) := List.getElem?_eq_getElem (by omega)
            have rep0 := B.cell i _ _ _ e hS hw
            obtain ⟨ew, c, cells, t, l, hF, a1, a2, a3, a4, a5, a6⟩ := rep0
            have op : W.own p := ⟨_, List.mem_of_getElem? hw, by rw [ew]; exact List.mem_cons_self⟩
            have lp := B.own_free op
            have lc := B.nol a2 rfl
            refine ⟨p, c, n, span, rfl, ⟨cells, t, l, (lock_at lp).trans a1, (lock_at lc).trans a2, a3, a4, a5, a6⟩, hn, h0, h1, fun d H' d0 d1 sb pn => ?_⟩
            obtain ⟨cells', t', l', b1, b2, b3, b4, b5, b6⟩ := pn.ex
            have lkd : ∀ b o, W.L.lookup b = some o → lockH W.L H1 b = H' b := fun b o eb => by
              have nb : b ≠ p := fun z => by rw [z, lp] at eb; cases eb
              obtain ⟨_, u, hu, _⟩ := B.lF b o eb
              have : lockH W.L H1 b = some (.frz o u) := by unfold lockH; rw [eb, hu]; rfl
              rw [this, sb b _ this nb]
            have kp : ∀ a o, H1 a = some o → a ≠ p → unlock W.L H1 H' a = some o := fun a o ha na => by
              unfold unlock
              cases eb : W.L.lookup a with
              | some _ => exact ha
              | none => exact sb a o ((lock_at eb).trans ha) na
            have u1 : unlock W.L H1 H' p = H' p := by unfold unlock; rw [lp]
            have u2 : unlock W.L H1 H' c = H' c := by unfold unlock; rw [lc]
            have ft : Fut W.φ W.F H1 W.φ W.F (unlock W.L H1 H') := ⟨fun _ _ z => z, fun _ z => z, fun a o hf ha => kp a o ha fun z => B.ownF rfl p op (by rw [← z]; exact hf), fun a xs ha => kp a _ ha fun z => by rw [z, a1] at ha; cases ha⟩
            have fin := kr (.d (.int d)) (S.set i (.pen (n + 1))) (.int d) W (unlock W.L H1 H') (q d d0 d1) ?_ (fun a z => .inl z) ?_ rfl (.int d)
            · rw [unlock_lock lkd] at fin
              exact fin
            · refine ⟨fun _ _ z => z, fun _ z => z, fun a o ha no => kp a o ha fun z => no rfl (by rw [z]; exact op), ft.tups, fun a ha => ?_, fun _ z => .inl z, ⟨[], rfl⟩, fun _ z => .inl z⟩
              by_cases z : a = p
              · rw [z, u1, b1]
                intro y
                cases y
              · cases eb : H1 a with
                | none => exact absurd eb ha
                | some o =>
                  rw [kp a o eb z]
                  intro y
                  cases y
            · refine ⟨fun a ha => ?_, by rw [List.length_set]; exact B.len, fun j x cl w g1 g2 g3 => ?_, B.apart, B.ownF, B.lN, fun a o ha => ?_⟩
              · obtain ⟨o, ho⟩ := B.fdom a ha
                exact ⟨o, ft.keep a o ha ho⟩
              · by_cases ji : j = i
                · subst ji
                  rw [e] at g1
                  cases g1
                  rw [hw] at g3
                  cases g3
                  rw [List.getElem?_set, if_pos rfl] at g2
                  split at g2
                  · cases g2
                    exact ⟨ew, c, cells', t', l', hF, by rw [u1]; exact b1, by rw [u2]; exact b2, b3, b4, b5, b6⟩
                  · cases g2
                · rw [List.getElem?_set_ne (Ne.symm ji)] at g2
                  have rep := B.cell j x cl w g1 g2 g3
                  refine rep.fut ft fun y hy => ?_
                  obtain ⟨o, ho, _⟩ := rep.there y hy
                  rw [ho]
                  refine kp y o ho fun z => ji (B.apart j i w _ y g3 hw hy ?_)
                  rw [ew, z]
                  exact List.mem_cons_self
              · obtain ⟨k1, u, k2, k3⟩ := B.lF a o ha
                exact ⟨k1, u, kp a u k2 (fun z => by rw [z, lp] at ha; cases ha), k3⟩
    · exact q.elim
  · exact q.elim
def Wd.cell (W : Wd) (p c : Addr) : Wd := { W with φ := W.φ ++ [(p, p)], owns := W.owns ++ [[p]], F := fun a => W.F a ∨ a = c }
theorem snoc_get {α : Type} {xs : List α} {x y : α} {n : Nat} (h : (xs ++ [x])[n]? = some y) : xs[n]? = some y ∨ (n = xs.length ∧ y = x) := by
  rw [List.getElem?_append] at h
  split at h
  · exact .inl h
  · rename_i hn
    have : n - xs.length = 0 := by
      cases e : n - xs.length with
      | zero => rfl
      | succ k => rw [e] at h; simp at h
    rw [this] at h
    simp at h
    exact .inr ⟨by omega, h.symm⟩
theorem pen_sp {K : PySem.W.Frag} {vs : List V} {H : Hp} {Q : VK} {E : XK} (h : spM true 1 (m__law_pen K) vs H Q E) : spPen K vs H Q E := by
  obtain ⟨W, S, H1, ds, Q0, E0, rfl, B, r, hl, q, kr, ke⟩ := h
  unfold m__law_pen at q
  split at q
  · rename_i d
    obtain ⟨ns, sd, q⟩ := q
    cases r with
    | cons r1 r2 =>
      rename_i v0 _
      cases r2
      have hsv : ∃ a, v0 = .ref a ∧ SqL K (lockH W.L H1) a (ns.map V.int) := by
        rcases sd with rfl | ⟨a, rfl, kl⟩
        · cases r1 with
          | scr hf hd =>
            rename_i a
            refine ⟨a, rfl, .inl ?_⟩
            rcases hd with hd | ⟨o, hd⟩
            · exact .inl ((lock_at (B.nol hd rfl)).trans hd)
            · exact .inr ⟨o, (lock_at (B.nol hd rfl)).trans hd⟩
        · cases r1
          exact ⟨a, rfl, .inr kl⟩
      obtain ⟨a, rfl, hsq⟩ := hsv
      · refine ⟨a, ns, rfl, hsq, q.1, fun p c H' hp hc npc sm pn => ?_⟩
        obtain ⟨p1, p2⟩ := B.lnone hp
        obtain ⟨c1, c2⟩ := B.lnone hc
        obtain ⟨cells', t', l', b1, b2, b3, b4, b5, b6⟩ := pn.ex
        have lkd : ∀ b o, W.L.lookup b = some o → lockH W.L H1 b = H' b := fun b o eb => by
          obtain ⟨_, u, hu, _⟩ := B.lF b o eb
          have : lockH W.L H1 b = some (.frz o u) := by unfold lockH; rw [eb, hu]; rfl
          rw [this, sm b _ this]
        have kp : ∀ a o, H1 a = some o → unlock W.L H1 H' a = some o := fun a o ha => by
          unfold unlock
          cases eb : W.L.lookup a with
          | some _ => exact ha
          | none => exact sm a o ((lock_at eb).trans ha)
        have u1 : unlock W.L H1 H' p = H' p := by unfold unlock; rw [p2]
        have u2 : unlock W.L H1 H' c = H' c := by unfold unlock; rw [c2]
        have nop : ¬ W.own p := fun z => by
          obtain ⟨o, e, _⟩ := B.own_there z
          rw [p1] at e; cases e
        have noc : ¬ W.own c := fun z => by
          obtain ⟨o, e, _⟩ := B.own_there z
          rw [c1] at e; cases e
        have nfp : ¬ W.F p := fun z => by
          obtain ⟨o, e⟩ := B.fdom _ z
          rw [p1] at e; cases e
        have ow : ∀ x, (W.cell p c).own x → W.own x ∨ x = p := fun x ⟨w, hw, hx⟩ => by
          rcases List.mem_append.mp hw with hw | hw
          · exact .inl ⟨w, hw, hx⟩
          · rw [List.mem_singleton.mp hw] at hx
            exact .inr (List.mem_singleton.mp hx)
        have ft : Fut W.φ W.F H1 (W.cell p c).φ (W.cell p c).F (unlock W.L H1 H') := ⟨fun n x z => by
          show (W.φ ++ [(p, p)])[n]? = some x
          rw [List.getElem?_append_left (List.getElem?_eq_some_iff.mp z).1]
          exact z, fun _ z => .inl z, fun a o _ h => kp a o h, fun a xs h => kp a _ h⟩
        have lens := B.len
        have fin := kr (.d (.cell S.length)) (S ++ [.pen 0]) (.ref p) (W.cell p c) (unlock W.L H1 H') q.2 ?_ (fun a z => z.elim .inl fun e => .inr (by rw [e]; exact c1)) ?_ rfl (.cell (r := p) ?_)
        · rw [unlock_lock lkd] at fin
          exact fin
        · refine ⟨ft.cells, ft.sub, fun a o h _ => kp a o h, fun a xs h => kp a _ h, fun a h => ?_, fun a z => (ow a z).elim .inl fun e => .inr ⟨rfl, by rw [e]; exact p1⟩, ⟨[], rfl⟩, fun a ⟨w, hw, hx⟩ => .inl ⟨w, List.mem_append_left _ hw, hx⟩⟩
          cases e : H1 a with
          | none => exact absurd e h
          | some o =>
            rw [kp a o e]
            intro y; cases y
        · refine ⟨fun a h => ?_, ?_, fun n x cl w g1 g2 g3 => ?_, fun m n w w' x g1 g2 g3 g4 => ?_, fun _ a ho hf => ?_, B.lN, fun a o h => ?_⟩
          · rcases h with h | rfl
            · obtain ⟨o, e⟩ := B.fdom a h
              exact ⟨o, kp a o e⟩
            · exact ⟨_, u2.trans b2⟩
          · show (W.φ ++ [(p, p)]).length = (S ++ [Cell.pen 0]).length ∧ (W.owns ++ [[p]]).length = (S ++ [Cell.pen 0]).length
            simp only [List.length_append, List.length_singleton]
            omega
          · rcases snoc_get g1 with k1 | ⟨k1, rfl⟩
            · rcases snoc_get g2 with k2 | ⟨k2, rfl⟩
              · rcases snoc_get g3 with k3 | ⟨k3, rfl⟩
                · have rep := B.cell n x cl w k1 k2 k3
                  refine rep.fut ft fun y hy => ?_
                  obtain ⟨o, e, _⟩ := rep.there y hy
                  rw [e, kp y o e]
                · have := (List.getElem?_eq_some_iff.mp k1).1
                  omega
              · have := (List.getElem?_eq_some_iff.mp k1).1
                omega
            · rcases snoc_get g2 with k2 | ⟨k2, rfl⟩
              · have := (List.getElem?_eq_some_iff.mp k2).1
                omega
              · rcases snoc_get g3 with k3 | ⟨k3, rfl⟩
                · have := (List.getElem?_eq_some_iff.mp k3).1
                  omega
                · exact ⟨rfl, c, cells', t', l', .inr rfl, u1.trans b1, u2.trans b2, b3, b4, b5, b6⟩
          · rcases snoc_get g1 with k1 | ⟨k1, rfl⟩
            · rcases snoc_get g2 with k2 | ⟨k2, rfl⟩
              · exact B.apart m n w w' x k1 k2 g3 g4
              · exact absurd ⟨w, List.mem_of_getElem? k1, by rw [← List.mem_singleton.mp g4]; exact g3⟩ nop
            · rcases snoc_get g2 with k2 | ⟨k2, rfl⟩
              · exact absurd ⟨w', List.mem_of_getElem? k2, by rw [← List.mem_singleton.mp g3]; exact g4⟩ nop
              · omega
          · rcases ow a ho with ho1 | rfl
            · rcases hf with hf | rfl
              · exact B.ownF rfl a ho1 hf
              · exact noc ho1
            · rcases hf with hf | hf
              · exact nfp hf
              · exact npc hf
          · obtain ⟨k1, u, k2, k3⟩ := B.lF a o h
            exact ⟨k1.elim (fun z => .inl (.inl z)) (fun z => by cases z.1), u, kp a u k2, k3⟩
        · show (W.φ ++ [(p, p)])[S.length]? = some (p, p)
          rw [← lens.1, List.getElem?_append_right (Nat.le_refl _), Nat.sub_self]
          rfl
  · exact q.elim
/-- from a def that lets no error out -/
theorem FnOk.calm {P : Program} {w : World} {K : PySem.W.Frag} {mg : Str → Option Value} {base : Heap} {k : Nat} {f : Addr} {fd : FuncData} {ps : List Str} {sp : Sp} (h : FnOk P w K mg base CX0 k f fd ps sp) : FnOk P w K mg base (L2.CX P w) k f fd ps sp := by
  refine ⟨h.len, fun A outer s H args us vs Q E hr e0 hb r q => codeAny_mono (h.run A outer s H args us vs Q E hr e0 hb r q) fun res s' z => ?_⟩
  cases res with
  | error e => exact (show False from z).elim
  | ok fl => cases fl <;> exact z
end Q
namespace Q
open PySem L2 PySem.Spec PyProof.Rows
/-! ### self.own_rows = {name: {} for name in ..}: the database is made -/
def C0.bl (c : C0) (L : List Addr) : C0 := { c with E := E0k, R := fun b => c.R b ∨ b ∈ L }
theorem TabsAt.snoc {H : Hp} {t : Addr} {n : Str} {ks : List (List Key)} (h : H t = some (.dT (ks.map fun k => (k, .bl true)))) : ∀ {kvs : List (Key × V)} {rows : List (Str × List (List Key))} {ts : List Addr}, TabsAt H kvs rows ts → TabsAt H (kvs ++ [(Sum.inr n, .ref t)]) (rows ++ [(n, ks)]) (ts ++ [t])
  | _, _, _, .nil => .cons h .nil
  | _, _, _, .cons a b => .cons a (b.snoc h)
end Q
namespace Q
open PySem L2 PySem.Spec PyProof.Rows
/-! ### the tables of a database are changed -/
theorem TabsAt.keys {H : Hp} : ∀ {kvs : List (Key × V)} {rows : List (Str × List (List Key))} {ts : List Addr}, TabsAt H kvs rows ts → kvs.map (·.1) = rows.map fun p => Sum.inr p.1
  | _, _, _, .nil => rfl
  | _, _, _, .cons _ r => by rw [List.map_cons, List.map_cons, r.keys]
theorem TabsAt.len {H : Hp} : ∀ {kvs : List (Key × V)} {rows : List (Str × List (List Key))} {ts : List Addr}, TabsAt H kvs rows ts → kvs.length = rows.length
  | _, _, _, .nil => rfl
  | _, _, _, .cons _ r => congrArg (· + 1) r.len
end Q
namespace Q
open PySem L2 PySem.Spec PyProof.Rows
section
variable {X : Cx}
/-! ### if (a if c else b) -/
def xIfT (c a b : Tx) : Tx := fun E st Q => c E st fun d st1 => if d = true then a E st1 Q else b E st1 Q
/-! ### in, as a test -/
end
end Q
/-! the end of a law -/
namespace Q
open PySem L2 PySem.Spec PyProof.Rows
def spLaw (K : PySem.W.Frag) : Sp := fun vs H Q _ => ∃ (a : Addr) (ns : List Int), vs = [.ref a] ∧ SqL K H a (ns.map V.int) ∧ ns.length ≤ 63 ∧ ∀ H', Q (.bl true) H'
theorem base_none {H : Hp} {F : Addr → Prop} (h : ∀ a, F a → ∃ o, H a = some o) : Base true ⟨[], [], F, []⟩ [] H :=
  ⟨h, ⟨rfl, rfl⟩, fun n a x w e => by simp at e, fun m n w w' x e => by simp at e, fun _ a ⟨w, hw, _⟩ => absurd hw List.not_mem_nil, List.nodup_nil, fun a o e => by simp at e⟩
theorem lock_nil (H : Hp) : lockH [] H = H := by
  funext a
  rfl
theorem law_sp {K : PySem.W.Frag} {m : MF} (hm : ∀ d ns, ScrD K d ns → ns.length ≤ 63 → m [d] (fun _ _ _ => False) [] fun o _ => o = .d (.bl true)) {vs : List V} {H : Hp} {Q : VK} {E : XK} (h : spLaw K vs H Q E) : spM true 1 m vs H Q E := by
  obtain ⟨a, ns, rfl, hs, hl, k⟩ := h
  have fin : ∀ (W : Wd), W.L = [] → ∀ (o : O) (S' : List Cell) (v : V) (W' : Wd) (H2 : Hp), o = O.d (.bl true) → Step true W H W' H2 → (∀ a, W'.F a → W.F a ∨ H a = none) → Base true W' S' H2 → W'.L = W.L → RO W' H H2 v o → Q v (lockH W.L H2) := by
    intro W _ o S' v W' H2 e _ _ _ _ r
    subst e
    have r' : Rp W' H2 v (.bl true) := r
    cases r'
    exact k _
  rcases hs with hs | hs
  · refine ⟨⟨[], [], fun b => b = a, []⟩, [], H, [.scr ns], _, _, (lock_nil H).symm, base_none fun b e => ?_, .cons (.scr rfl hs) .nil, rfl, hm _ ns (.inl rfl) hl, fin _ rfl, fun _ _ _ _ _ _ e => e.elim⟩
    subst e
    rcases hs with hs | ⟨o, hs⟩
    · exact ⟨_, hs⟩
    · exact ⟨_, hs⟩
  · exact ⟨⟨[], [], fun _ => False, []⟩, [], H, [.cls a], _, _, (lock_nil H).symm, base_none fun b e => e.elim, .cons (.cls a) .nil, rfl, hm _ ns (.inr ⟨a, rfl, hs⟩) hl, fin _ rfl, fun _ _ _ _ _ _ e => e.elim⟩
end Q
/-! repr of lists and tuples: where no repr is under way -/
namespace Q
open PySem L2 PySem.Spec PyProof.Rows
/-- a def's promise where no repr is under way -/
structure FnOkG (P : Program) (w : World) (K : PySem.W.Frag) (mg : Str → Option Value) (base : Heap) (CX : CXT) (k : Nat) (f : Addr) (fd : FuncData) (ps : List Str) (sp : Sp) : Prop where
  len : ∀ vs H Q E, sp vs H Q E → vs.length = ps.length
  run : ∀ (A : Around) (outer : List Env) (s : Shared) (H : Hp) (args : Args) (us : List Value) (vs : List V) (Q : VK) (E : XK), Room k A → A.guards = some [] → Env0 P w K mg base A outer s H → BindsTo s fd args (ps.zip us) → Vals vs us → sp vs H Q E →
    codeAny (model P w) A (.call (.ref f) args) (CR CX outer P w H s Q E) s
end Q
/-! defs that use repr of lists and tuples, and their callers -/
namespace Q
open PySem L2 PySem.Spec PyProof.Rows
theorem FnOk.g {P : Program} {w : World} {K : PySem.W.Frag} {mg : Str → Option Value} {base : Heap} {CX : CXT} {k : Nat} {f : Addr} {fd : FuncData} {ps : List Str} {sp : Sp} (F : FnOk P w K mg base CX k f fd ps sp) : FnOkG P w K mg base CX k f fd ps sp :=
  ⟨F.len, fun A outer s H args us vs Q E hr _ => F.run A outer s H args us vs Q E hr⟩
theorem FnOkG.imp {P : Program} {w : World} {K : PySem.W.Frag} {mg : Str → Option Value} {base : Heap} {CX : CXT} {k : Nat} {f : Addr} {fd : FuncData} {ps : List Str} {sp sp' : Sp} (F : FnOkG P w K mg base CX k f fd ps sp) (h : ∀ vs H Q E, sp' vs H Q E → sp vs H Q E) : FnOkG P w K mg base CX k f fd ps sp' :=
  ⟨fun vs H Q E q => F.len vs H Q E (h _ _ _ _ q), fun A outer s H args us vs Q E hr hg he hb hv hs => F.run A outer s H args us vs Q E hr hg he hb hv (h _ _ _ _ hs)⟩
section
variable {P : Program} {w : World} {K : PySem.W.Frag} {mg : Str → Option Value} {base : Heap}
/-- a def by its body, where no repr is under way -/
theorem okG {x qual : Str} {st : Stmt} {f : Addr} {fd : FuncData} {N ps : List Str} {k : Nat} {sp : Sp} (F : Fun K x qual st f fd) (S : FnScope N ps (defScope st)) (len : ∀ vs H Q E, sp vs H Q E → vs.length = ps.length)
    (hb : ∀ (cdv : Value) (A : Around) (outer : List Env) (s : Shared) (H : Hp) (vs : List V) (Q : VK) (E : XK), Room k (A.deeper (envOfC qual (defScope st) s.heap.objs.size f cdv)) → A.guards = some [] → sp vs H Q E →
      ∃ t, PSs (cxOf (L2.CX P w) P w K mg base N qual (defScope st) f cdv A outer s H E) (defBody st) t ∧ t { nx := fun _ H' => Q .non H', rt := Q } (start N vs) H) : FnOkG P w K mg base (L2.CX P w) (k + 1) f fd ps sp := by
  obtain ⟨oc, od, kV, doc, pm, an, cdv, ct, osl, rfl, at_, code⟩ := F.ex
  refine ⟨len, fun A outer s H args us vs Q E room free env0 bound vals want => ?_⟩
  have old := fun b o e => (env0.bs b o e).1
  have inK : K.In s.heap := env0.mod.kin.keeps old
  obtain ⟨t, body, goal⟩ := hb cdv A outer s H vs Q E (room.deeper _) free want
  refine codeAny_call_function room.depth (inK _ _ at_) rfl S.co S.gen rfl (PySem.W.codeRec_of inK code) (bound _ _ _ _ ?_)
  refine wpAny_newFunctionEnv_cells S.kind (fun y hy => ?_) fun env he s1 into => ?_
  · have := S.par y.1 (List.of_mem_zip (a := y.1) (b := y.2) hy).1
    exact this.imp_right fun q => ⟨q, PySem.W.cellsFrom_some _ _ _ (.inl q)⟩
  · cases he
    refine ⟨(env0.mod.nolimit.keeps old).keeps into.toInCall.keep, codeAny_func (wpAny_mono (body.run [] s1 _ H _ (inv_start S room.hd env0 (len _ _ _ _ want) vals into) goal) (fun fl s' ends => ?_) fun _ _ z => z)⟩
    cases fl with
    | ret u =>
      obtain ⟨v, _, H', J, rel, q⟩ := ends
      exact ⟨v, H', J.os, J.bare, J.base, J.hok, rel, q⟩
    | next =>
      obtain ⟨_, H', J, q⟩ := ends
      exact ⟨.non, H', J.os, J.bare, J.base, J.hok, (rfl : RelV V.non Value.none), q⟩
    | brk => exact ends.elim fun _ z => z.elim fun _ z => z.2.elim
    | cont => exact ends.elim fun _ z => z.elim fun _ z => z.2.elim
end
end Q
/-! super().__init__(..) as a statement of a def -/
namespace Q
open PySem L2 PySem.Spec PyProof.Rows
/-- statements at one activation -/
structure PSat (X : Cx) (c : Code) (st : List Stmt) (t : TS) : Prop where
  run : ∀ (pins : List (Addr × Obj)) (s : Shared) (σ : L2.St) (H : Hp) (D : Ends), L2.Inv X pins σ H s → t D σ H → PySem.wpAt (model X.prog X.w) X.A c (execs st X.env) (SP X pins D) X.xe s
section
variable {X : Cx} {c : Code}
theorem PSat.of {st : List Stmt} {t : TS} (h : PSs X st t) : PSat X c st t := ⟨fun pins s σ H D I q => PySem.wpAt_of_wpAny (h.run pins s σ H D I q)⟩
theorem PSat.cons {s1 : Stmt} {rest : List Stmt} {t1 t2 : TS} (h1 : PS X s1 t1) (h2 : PSat X c rest t2) : PSat X c (s1 :: rest) (fun D σ H => t1 { D with nx := fun σ' H' => t2 D σ' H' } σ H) := by
  refine ⟨fun pins s σ H D I q => PySem.ks_wpAt_execs_cons (PySem.wpAt_of_wpAny (thn (h1.run pins s σ H _ I q) fun fl s' z => ?_))⟩
  cases fl with
  | next =>
    obtain ⟨σ', H', J, n⟩ := z
    exact h2.run pins s' σ' H' D J n
  | ret u => exact z
  | brk => exact z
  | cont => exact z
theorem clsIn_at {K : PySem.W.Frag} {h : Heap} {D : Addr} (X : K.In h) (e : (PySem.W.clsIn K D).isSome = true) : ∃ o cd, h.get? D = some o ∧ o.data = .cls cd := by
  obtain ⟨cd, hc⟩ := Option.isSome_iff_exists.mp e
  unfold PySem.W.clsIn at hc
  split at hc
  · rename_i lk
    exact ⟨_, _, X _ _ lk, rfl⟩
  · cases hc
end
end Q
/-! a def that closes over __class__ -/
namespace Q
open PySem L2 PySem.Spec PyProof.Rows NdefX
section
variable {P : Program} {w : World} {K : PySem.W.Frag} {mg : Str → Option Value} {base : Heap}
theorem fn_sup {CX : CXT} {k : Nat} {f cc D : Addr} {F : NF} {dV kV doc pm ct oc cl : Value} {an od cld : Option Addr} {osl csl : Array (Option Value)} {N ps : List Str} {sp : Sp} (hF : F.cl = [(("__class__" : Str), cc)])
    (lk : K.lookup f = some ⟨oc, od, .func (PySem.W.fnX F.name F.qual F.params F.body F.scope F.cl dV kV doc pm an (.ref F.c) ct), osl⟩) (hcd : PySem.W.codeIn K (.ref F.c) F.qual = true) (hcell : K.lookup cc = some ⟨cl, cld, .cell (some (.ref D)), csl⟩)
    (S : NScope N ps ["__class__"] F.scope) (len : ∀ vs H Q E, sp vs H Q E → vs.length = ps.length)
    (hb : ∀ (A : Around) (outer : List Env) (s : Shared) (H : Hp) (vs : List V) (Q : VK) (E : XK), Room k (A.deeper (envF F f s.heap.objs.size)) → sp vs H Q E →
      ∃ t, PSat (ncx CX P w K mg base N F f A outer s H E) (.func F.body (envF F f s.heap.objs.size)) F.body t ∧ t { nx := fun _ H' => Q .non H', rt := Q } (startF N vs [some (.ref D)]) H) :
    FnOk P w K mg base CX (k + 1) f (PySem.W.fnX F.name F.qual F.params F.body F.scope F.cl dV kV doc pm an (.ref F.c) ct) ps sp := by
  refine ⟨len, fun A outer s H args us vs Q E room env0 bound vals want => ?_⟩
  have old := fun b o e => (env0.bs b o e).1
  have inK : K.In s.heap := env0.mod.kin.keeps old
  obtain ⟨t, body, goal⟩ := hb A outer s H vs Q E (room.deeper _) want
  have cells : CellsAt F.cl ["__class__"] [some (.ref D)] s.heap H := by
    have cat := inK _ _ hcell
    have free : H cc = none := (env0.bs cc _ (env0.mod.kin _ _ hcell)).2
    rw [hF]
    have one : ∀ {y : Str} {c : Addr}, List.lookup y [(("__class__" : Str), cc)] = some c → y = "__class__" ∧ c = cc := fun {y c} z => by
      rw [List.lookup_cons] at z
      cases q : (y == ("__class__" : Str)) with
      | true => rw [q] at z; exact ⟨eq_of_beq q, (Option.some.inj z).symm⟩
      | false => rw [q] at z; cases z
    refine ⟨rfl, fun y c z => ?_, fun a b c z1 z2 => (one z1).1.trans (one z2).1.symm, fun i y z => ?_⟩
    · rw [(one z).2]
      exact ⟨free, _, _, cat, rfl⟩
    · match i, z with
      | 0, z =>
        cases z
        exact ⟨cc, rfl, fun v z => ⟨.ref D, by cases z; rfl, _, cat, rfl⟩⟩
  refine PySem.ks_codeAny_call_defAt (fd := PySem.W.fnX F.name F.qual F.params F.body F.scope F.cl dV kV doc pm an (.ref F.c) ct) (binds := ps.zip us) room.depth (inK _ _ lk) rfl (env0.mod.nolimit.keeps old) (PySem.W.codeRec_of inK hcd) rfl bound S.nocell (fun y hy => S.par y.1 (List.of_mem_zip (a := y.1) (b := y.2) hy).1) (fun h1 hns keep => ?_) S.co S.gen S.kind
  refine PySem.ks_wpAt_mono (body.run [] _ _ H _ (inv_startN S room.hd env0 (len _ _ _ _ want) vals cells hns keep) goal) (fun fl s' ends => ?_) fun _ _ z => z
  cases fl with
  | ret u =>
    obtain ⟨v, _, H', J, rel, q⟩ := ends
    exact ⟨v, H', J.os, J.bare, J.base, J.hok, rel, q⟩
  | next =>
    obtain ⟨_, H', J, q⟩ := ends
    exact ⟨.non, H', J.os, J.bare, J.base, J.hok, (rfl : L2.RelV V.non Value.none), q⟩
  | brk => exact ends.elim fun _ z => z.elim fun _ z => z.2.elim
  | cont => exact ends.elim fun _ z => z.elim fun _ z => z.2.elim
end
end Q
/-! constructors with keywords -/
namespace Q
open PySem L2 PySem.Spec PyProof.Rows
section
variable {X : Cx}
theorem RVs.len {W : Wd} {σ : L2.St} {H : Hp} : ∀ {vs : List V} {rs : List R}, RVs W σ H vs rs → vs.length = rs.length
  | _, _, .nil => rfl
  | _, _, .cons _ t => congrArg (· + 1) (RVs.len t)
end
end Q
/-! constructors that call super().__init__, over plain data -/
namespace Q
open PySem L2 PySem.Spec PyProof.Rows NdefX
section
variable {X : Cx} {code : Code}
/-- nobody bears x: the heap without it -/
theorem Pre.del {c : C0} {W : Wd} {st : Ps} {σ : L2.St} {H : Hp} {x : Addr} (P : Pre c W st σ H) (hF : ¬ W.F x) (ho : ¬ W.own x) (h0 : c.H0 x = none) (hs : ∀ i, ¬ slotOwns st.ρ σ i x) (hR : ¬ c.R x) (ht : ∀ xs, H x ≠ some (.tup xs)) : Pre c W st σ (hDel H x) := by
  have neF : ∀ {a}, W.F a → a ≠ x := fun {a} h z => hF (by rw [← z]; exact h)
  have fu : Fut W.φ W.F H W.φ W.F (hDel H x) := ⟨fun _ _ e => e, fun _ h => h, fun a o h e => by rw [del_ne (neF h)]; exact e, fun a xs e => by rw [del_ne (fun z => ht xs (by rw [← z]; exact e))]; exact e⟩
  refine ⟨P.hrw, ?_, P.new, base_del P.base hF ho ht, P.slen, fun i o e => ?_, P.sown, P.sapart, fun a ha => ?_, P.hvw, P.own0⟩
  · refine ⟨P.step.cells, P.step.sub, fun a o e n => ?_, fun a xs e => ?_, fun a e => ?_, P.step.ownNew, P.step.locks, P.step.ownOld⟩
    · rw [del_ne (fun z => by rw [z, h0] at e; cases e)]
      exact P.step.keep a o e n
    · rw [del_ne (fun z => by rw [z, h0] at e; cases e)]
      exact P.step.tups a xs e
    · rw [del_ne (fun z => e (by rw [z]; exact h0))]
      exact P.step.dom a e
  · have so := P.slot i o e
    cases ow : o.owned with
    | true =>
      obtain ⟨a, e1, e2⟩ := SlotOk.own ow so
      have ne : a ≠ x := fun z => hs i ⟨o, e, ow, by rw [← z]; exact join_ref e1⟩
      rw [e1]
      exact SlotOk.of_own ow (e2.fut fu (del_ne ne))
    | false =>
      cases o with
      | un => exact trivial
      | d y =>
        obtain ⟨v, e1, e2⟩ := so
        exact ⟨v, e1, e2.fut fu⟩
      | lst _ => cases ow
      | dK _ => cases ow
      | dT _ => cases ow
      | ins _ _ _ => cases ow
  · obtain ⟨a1, a2, ⟨o, a3⟩, a4⟩ := P.rsv a ha
    exact ⟨a1, a2, ⟨o, by rw [del_ne (fun z => hR (by rw [← z]; exact ha))]; exact a3⟩, a4⟩
end
end Q
namespace Q
open PySem L2 PySem.Spec PyProof.Rows NdefX
/-- a def of the class D that closes over __class__ -/
abbrev nfOf (st : Stmt) (x qual : Str) (cc c : Addr) : NF := ⟨x, qual, defArgs st, defBody st, defScope st, [(("__class__" : Str), cc)], c⟩
structure FunS (K : PySem.W.Frag) (x qual : Str) (st : Stmt) (f : Addr) (fd : FuncData) (cc c D : Addr) : Prop where
  ex : ∃ (oc kV doc pm ct cl : Value) (od an cld : Option Addr) (osl csl : Array (Option Value)), fd = PySem.W.fnX x qual (defArgs st) (defBody st) (defScope st) [(("__class__" : Str), cc)] .none kV doc pm an (.ref c) ct ∧ K.lookup f = some ⟨oc, od, .func fd, osl⟩ ∧ K.lookup cc = some ⟨cl, cld, .cell (some (.ref D)), csl⟩
  code : PySem.W.codeIn K (.ref c) qual = true
  kp : PySem.W.keepIn K (.ref f) = true
end Q
/-! sorted of texts: a list, a tuple, the keys of a dict -/
/-! o(..): an instance whose class has __call__ -/
/-! items() of a dict whose keys are tuples -/
/-! sorted of a tuple of texts; sorted(d.items()) of at most one item -/
/-! a dict display of one pair; sorted, items of tuple keys over plain data -/
namespace Q
open PySem L2 PySem.Spec PyProof.Rows L2.DX
section
variable {X : Cx}
def tDisp1 (t : Bool) (tk tv : TE) : TE := fun σ H Q => ∀ p, H p = none → tk σ (upd H p (noKeys t)) fun y H1 => tv σ H1 fun z H2 => ∃ H3, DPut H2 p y z H3 ∧ Q (.ref p) H3
theorem pe_disp1 {t : Bool} {k v : Expr} {pos : Pos} {tk tv : TE} (hu : X.A.units < cLine) (hk : PE X k tk) (hv : PE X v tv) : PE X (.Dict [some k] [v] pos) (tDisp1 t tk tv) := ⟨fun pins s σ H Q I h => by
  have hn := I.hok.fresh (Nat.le_refl s.heap.objs.size)
  have I1 := I.laid (a := s.heap.objs.size) (o := noKeys t) (h' := s.heap.push { cls := .type "dict", data := .dict #[] }) (t' := s.toks) (fun _ _ q => Heap.get?_push_of_some _ q) (Nat.le_refl _) (noKeys_ok t s.heap I.big)
  refine wpAny_Dict_any rfl rfl (by simp) (by simp) (pairTrees_cons_walk (thn (hk.run pins _ σ _ _ I1 (h _ hn)) fun u s1 ⟨y, H1, I2, ry, q1⟩ => thn (hv.run pins s1 σ H1 _ I2 q1) fun u2 s2 ⟨z, H2, I3, rz, H3, dp, q2⟩ => pairTrees_nil_walk ?_))
  unfold storeAll
  rw [List.forIn_cons]
  exact wpAny_bind (wpAny_bind (set_any hu I3 dp ry rz fun s' I4 => wpAny_pure (wpAny_pure ⟨.ref s.heap.objs.size, H3, I4, rfl, q2⟩)))⟩
def xDi (t : Bool) (fk fv : Ex) : Ox := fun E st Q => fk E0k st fun r st1 => opt (frz st1 r) fun q => fv E0k q.2 fun r2 st2 => opt (frz st2 r2) fun q2 => opt (putO (noKeysO t) q.1 q2.1) fun o => Q o q2.2
theorem po_di {t : Bool} {k v : Expr} {pos : Pos} {fk fv : Ex} (hu : X.A.units < cLine) (hk : PX X k fk) (hv : PX X v fv) : PO X (.Dict [some k] [v] pos) (xDi t fk fv) := fun c l =>
  peOf (pe_disp1 hu (pe_any c hk) (pe_any c hv)) fun σ H Q ⟨W, st, H1, Q0, hH, P, q, kk⟩ => fun D hD => by
    subst hH
    obtain ⟨d1, d2⟩ := P.lnone' hD
    obtain ⟨sD, PD, f1, f2, f3, f4, f5⟩ := P.fresh (o := noKeys t) d1
    have PB : Pre (c.blk D) W st σ (upd H1 D (noKeys t)) := (PD.res ⟨f1, f2, ⟨_, upd_same⟩, f4⟩).ctx rfl rfl rfl fun _ z => z
    have dwn : ∀ {Wx Wy Hx Hy ox stx}, Pre (c.blk D) Wx stx σ Hx → Step c.rw Wx Hx Wy Hy → OwnAt Wx Hx D ox → OwnAt Wy Hy D ox := fun {Wx Wy Hx Hy ox stx} Px sx hx => by
      obtain ⟨u, hu, _⟩ := hx.there
      exact hx.fut (Px.fut sx) (by rw [hu]; exact blk_at Px sx hu)
    refine ⟨D, W, st, _, _, lock_upd d2, PB, q, fun r st7 v W7 H7 q7 s7 P7 rv => ?_⟩
    obtain ⟨⟨y, st8⟩, e8, q8⟩ := opt_ex q7
    obtain ⟨W8, s8, P8, r8, eL⟩ := frz_ok P7 e8 rv
    rw [← eL]
    refine ⟨D, W8, st8, H7, _, rfl, P8, q8, fun r2 st9 v2 W9 H9 q9 s9 P9 rv2 => ?_⟩
    obtain ⟨⟨y2, st10⟩, e10, q10⟩ := opt_ex q9
    obtain ⟨acc', e11, q11⟩ := opt_ex q10
    obtain ⟨W10, s10, P10, r10, eL2⟩ := frz_ok P9 e10 rv2
    have x10 := dwn P9 s10 (dwn P8 s9 (dwn P7 s8 (dwn PB s7 (noKeys_own t))))
    have ry : Rp W10 H9 v y := (r8.fut (P8.fut s9)).fut (P9.fut s10)
    have ul := P10.lown (P10.rsv D (.inr rfl)).1 (P10.rsv D (.inr rfl)).2.1
    have hl : lenO (noKeysO t) < sizeLine := by cases t <;> (rw [sizeLine_eq]; decide)
    obtain ⟨u, u', hu', hm, dp, ho', _, nw⟩ := put_ok P10 x10 ul ry.top r10 hl e11
    obtain ⟨P11, f11⟩ := P10.mutR (u' := u') (.inr rfl) f3 hu' hm
    rw [← eL2]
    refine ⟨_, dp, ?_⟩
    rw [lock_upd ul]
    obtain ⟨k1, k2, k3, k4⟩ := P11.rsv D (.inr rfl)
    exact kk _ _ _ _ _ q11 ((((((sD.trans s7).trans s8).trans s9).trans s10)).updN d1) (P11.ctx rfl rfl rfl fun _ z => .inl z) (OV.of_own ho' ⟨nw f11, k1, k2, f3, k4, f5⟩)
end
end Q
/-! the end of a law whose def uses repr of lists: no repr is under way at the caller -/
namespace Q
open PySem L2 PySem.Spec PyProof.Rows
section
variable {P : Program} {w : World} {K : PySem.W.Frag} {mg mb : Str → Option Value} {s : Shared} {a : Addr} {us : List Value} {ns : List Int}
/-- the heap in which at most the script is tracked, frozen -/
structure ScrH (P : Program) (w : World) (K : PySem.W.Frag) (s : Shared) (a : Addr) (us : List Value) (H : Hp) : Prop where
  only : ∀ b u, H b = some u → b = a ∧ ∃ xs, u = .frz { cls := .type "list", data := .seq us.toArray } (.lst xs)
  own : H a ≠ none → K.lookup a = none
  ok : HOk P w H s.heap
theorem ScrH.other {H : Hp} (S : ScrH P w K s a us H) (ha : s.heap.get? a = some { cls := .type "list", data := .seq us.toArray }) {b : Addr} {o : Obj} (hb : s.heap.get? b = some o) (hs : o ≠ { cls := .type "list", data := .seq us.toArray }) : (hidT s.heap H).get? b = some o := by
  refine hidT_get hb ?_
  rcases z : H b with _ | u
  · rfl
  · obtain ⟨rfl, _⟩ := S.only b u z
    exact absurd (Option.some.inj (hb.symm.trans ha)) hs
theorem ScrH.nsp {H : Hp} (S : ScrH P w K s a us H) (ha : s.heap.get? a = some { cls := .type "list", data := .seq us.toArray }) {b : Addr} {m : Str → Option Value} (h : s.heap.Ns b m) : (hidT s.heap H).Ns b m := by
  obtain ⟨o, es, ep, e, d, r⟩ := h
  refine ⟨o, es, ep, S.other ha e fun z => ?_, d, r⟩
  rw [z] at d
  cases d
theorem ScrH.kin {H : Hp} (S : ScrH P w K s a us H) (ha : s.heap.get? a = some { cls := .type "list", data := .seq us.toArray }) (KX : K.In s.heap) : K.In (hidT s.heap H) := fun b o e => by
  refine hidT_get (KX b o e) ?_
  rcases z : H b with _ | u
  · rfl
  · obtain ⟨rfl, _⟩ := S.only b u z
    rw [S.own (by rw [z]; exact fun q => by cases q)] at e
    cases e
theorem lawG_run {CX : CXT} {k : Nat} {fa : Addr} {fd : FuncData} {x : Str} {sp : Sp} {H : Hp} (S : ScrH P w K s a us H) (ha : s.heap.get? a = some { cls := .type "list", data := .seq us.toArray })
    (KX : K.In s.heap) (hns : s.heap.Ns mainGlobals mg) (hb : s.heap.Ns builtinsNs mb) (hbb : ∀ x : Str, x ≠ "__name__" → mb x = bootBuiltins x) (hlim : s.heap.NoLimit) (hg : s.gens = #[]) (hr : Room k callerA)
    (hm : ∃ mm, s.heap.Ns sysModules mm) (F : ∀ base : Heap, K.In base → base.Ns mainGlobals mg → (∃ o, base.get? sysModules = some o) → FnOkG P w K mg base CX k fa fd [x] sp) (hbind : ∀ (s : Shared) (u : Value), BindsTo s fd ⟨[u], []⟩ [(x, u)])
    (hsp : sp [.ref a] H (fun v _ => v = .bl true) fun _ _ _ => False) (hCX : ∀ H e s', CX [] H s (fun _ _ _ => False) e s' → False) :
    codeAny (model P w) callerA (.call (.ref fa) ⟨[.ref a], []⟩) (fun r s' => r = .ok (.ret (.bool true)) ∧ OldK s.heap s'.heap ∧ s'.os = s.os ∧ AllBare s'.gens) s := by
  obtain ⟨mc, l1, l2⟩ := hlim
  have mod : Mod K mg (hidT s.heap H) := ⟨S.kin ha KX, S.nsp ha hns, ⟨mb, S.nsp ha hb, hbb⟩, mc, S.nsp ha l1, l2⟩
  have mods : ∃ o, (hidT s.heap H).get? sysModules = some o := by
    obtain ⟨mm, h⟩ := hm
    obtain ⟨o, es, ep, e, _⟩ := S.nsp ha h
    exact ⟨o, e⟩
  have env : Env0 P w K mg (hidT s.heap H) callerA [] s H := ⟨rfl, mod, fun b o => of_hidT, Nat.le_of_eq (hidT_size _ _), trivial, fun b z => absurd (show b ∈ ([] : List Addr) from z) List.not_mem_nil, S.ok, .of_eq hg⟩
  refine codeAny_mono ((F _ mod.kin mod.glob mods).run callerA [] s H ⟨[.ref a], []⟩ [.ref a] [.ref a] (fun v _ => v = .bl true) (fun _ _ _ => False) hr rfl env (hbind s (.ref a)) (.cons rfl .nil) hsp) fun res s' out => ?_
  match res, out with
  | .error e, out => exact (hCX H e s' out).elim
  | .ok (.ret u), out =>
    obtain ⟨v, H', os, bare, un, ok', rel, ev⟩ := out
    subst ev
    cases (show u = Value.bool true from rel)
    refine ⟨rfl, .of_keep fun b o e => ?_, os, bare⟩
    rcases z : H b with _ | y
    · exact un.keep b o e z (fun q => absurd (show b ∈ ([] : List Addr) from q) List.not_mem_nil) List.not_mem_nil
    · obtain ⟨rfl, xs, rfl⟩ := S.only b y z
      rw [e] at ha
      cases ha
      exact (ok' b _ (un.frzs b _ _ z)).1
  | .ok .next, out => exact False.elim out
  | .ok .brk, out => exact False.elim out
  | .ok .cont, out => exact False.elim out
theorem lawG_call {CX : CXT} {k : Nat} {fa : Addr} {fd : FuncData} {x : Str} {sp : Sp} (KX : K.In s.heap) (hns : s.heap.Ns mainGlobals mg) (hb : s.heap.Ns builtinsNs mb) (hbb : ∀ x : Str, x ≠ "__name__" → mb x = bootBuiltins x) (hlim : s.heap.NoLimit) (hg : s.gens = #[])
    (ha : s.heap.get? a = some { cls := .type "list", data := .seq us.toArray }) (hi : IntsAre us ns) (hl : ns.length ≤ sizeLine) (hr : Room k callerA)
    (hm : ∃ mm, s.heap.Ns sysModules mm) (F : ∀ base : Heap, K.In base → base.Ns mainGlobals mg → (∃ o, base.get? sysModules = some o) → FnOkG P w K mg base CX k fa fd [x] sp) (hbind : ∀ (s : Shared) (u : Value), BindsTo s fd ⟨[u], []⟩ [(x, u)])
    (hsp : ∀ H : Hp, SqL K H a (ns.map V.int) → sp [.ref a] H (fun v _ => v = .bl true) fun _ _ _ => False) (hCX : ∀ H e s', CX [] H s (fun _ _ _ => False) e s' → False) :
    codeAny (model P w) callerA (.call (.ref fa) ⟨[.ref a], []⟩) (fun r s' => r = .ok (.ret (.bool true)) ∧ OldK s.heap s'.heap ∧ s'.os = s.os ∧ AllBare s'.gens) s := by
  have rv : Vals (ns.map V.int) us := vals_ints hi
  by_cases hk : K.lookup a = none
  · have S : ScrH P w K s a us (fun b => if b = a then some (.frz { cls := .type "list", data := .seq us.toArray } (.lst (ns.map V.int))) else none) := by
      refine ⟨fun b u z => ?_, fun _ => hk, fun b u z => ?_⟩ <;> by_cases e : b = a
      · exact ⟨e, _, (Option.some.inj ((if_pos e).symm.trans z)).symm⟩
      · exact nomatch (if_neg e).symm.trans z
      · obtain rfl := Option.some.inj ((if_pos e).symm.trans z)
        subst e
        exact ⟨ha, by rw [List.length_map]; exact hl, us, _, rv, ha⟩
      · exact nomatch (if_neg e).symm.trans z
    exact lawG_run S ha KX hns hb hbb hlim hg hr hm F hbind (hsp _ (.inl (.inr ⟨_, if_pos rfl⟩))) hCX
  · obtain ⟨o, ho⟩ := Option.ne_none_iff_exists'.mp hk
    have e := (KX a o ho).symm.trans ha
    cases e
    refine lawG_run (H := fun _ => none) ⟨fun b u z => (by cases z), fun z => absurd rfl z, fun b u z => (by cases z)⟩ ha KX hns hb hbb hlim hg hr hm F hbind (hsp _ (.inr ⟨_, us.toArray, _, ho, rfl, rfl, rfl, by rw [List.size_toArray, hi.length]; exact hl, by simpa using rv⟩)) hCX
end
end Q
/-! repr of lists, tuples and dicts with tuple keys: where no repr is under way -/
namespace Q
open PySem L2 PySem.Spec PyProof.Rows
def kP : Key → PyData
  | .inl i => .int i
  | .inr s => .str s
mutual
inductive DQ (H : Hp) : V → PyData → Prop
  | non : DQ H .non .none
  | bl (b : Bool) : DQ H (.bl b) (.bool b)
  | int (i : Int) : DQ H (.int i) (.int i)
  | str (x : Str) : DQ H (.str x) (.str x)
  | lst {a : Addr} {xs : List V} {ps : List PyData} : H a = some (.lst xs) → DQs H xs ps → DQ H (.ref a) (.list ps)
  | tup {a : Addr} {xs : List V} {ps : List PyData} : H a = some (.tup xs) → DQs H xs ps → DQ H (.ref a) (.tuple ps)
  | dT {a : Addr} {xs : List (List Key × V)} {ps : List (PyData × PyData)} : Rd H a (.dT xs) → DQt H xs ps → DQ H (.ref a) (.dict ps)
inductive DQs (H : Hp) : List V → List PyData → Prop
  | nil : DQs H [] []
  | cons {v : V} {p : PyData} {vs : List V} {ps : List PyData} : DQ H v p → DQs H vs ps → DQs H (v :: vs) (p :: ps)
inductive DQt (H : Hp) : List (List Key × V) → List (PyData × PyData) → Prop
  | nil : DQt H [] []
  | cons {k : List Key} {v : V} {p : PyData} {vs : List (List Key × V)} {ps : List (PyData × PyData)} : DQ H v p → DQt H vs ps → DQt H ((k, v) :: vs) ((.tuple (k.map kP), p) :: ps)
end
section
variable {X : Cx} {pins : List (Addr × Obj)} {σ : L2.St} {H : Hp} {s : Shared}
theorem keyQ {k : Key} {u : Value} (r : RelV (kV k) u) : Reads s.heap u (kP k) [] := by
  cases k with
  | inl i => obtain ⟨t, rfl⟩ := r; exact .int i t
  | inr x => obtain ⟨t, rfl⟩ := r; exact .str x t
theorem keysQ : ∀ {ks : List Key} {us : List Value}, Vals (ks.map kV) us → ReadsAll s.heap us (ks.map kP) []
  | [], _, r => by cases r; exact .nil
  | k :: ks, _, r => by
    cases r with
    | cons r1 r2 => exact ReadsAll.cons (as := []) (bs := []) (keyQ r1) (keysQ r2)
theorem tupQ (I : L2.Inv X pins σ H s) {q : Addr} {ks : List Key} (h : H q = some (.tup (ks.map kV))) : Reads s.heap (.ref q) (.tuple (ks.map kP)) [] := by
  obtain ⟨its, rv, ⟨o, ho, hc, n, hd⟩, _⟩ := I.tuple (SqT.of (K := X.K) h)
  refine .tuple ho hc hd ?_
  have : its.toArray.toList = its := by simp
  rw [this]
  exact keysQ rv
mutual
theorem DQ.reads (I : L2.Inv X pins σ H s) (hb : H sysModules = none) : ∀ {p : PyData} {v : V} {u : Value}, DQ H v p → RelV v u → ∃ as, Reads s.heap u p as ∧ sysModules ∉ as
  | .none, _, _, h, r => by
    cases h
    cases r
    exact ⟨_, .none, List.not_mem_nil⟩
  | .bool b, _, _, h, r => by
    cases h
    cases r
    exact ⟨_, .bool b, List.not_mem_nil⟩
  | .int i, _, _, h, r => by
    cases h
    obtain ⟨t, rfl⟩ := r
    exact ⟨_, .int i t, List.not_mem_nil⟩
  | .str x, _, _, h, r => by
    cases h
    obtain ⟨t, rfl⟩ := r
    exact ⟨_, .str x t, List.not_mem_nil⟩
  | .list ps, _, _, h, r => by
    cases h with
    | lst h1 h2 =>
      cases r
      rename_i a xs
      obtain ⟨its, rv, ⟨o, n, ho, hc, _, hd⟩, _⟩ := I.list (SqL.of (K := X.K) h1)
      obtain ⟨as, q, no⟩ := DQs.reads I hb h2 rv
      have e : its.toArray.toList = its := by simp
      refine ⟨a :: as, .list ho hc hd (by rw [e]; exact q), fun z => ?_⟩
      rcases List.mem_cons.mp z with z | z
      · rw [← z, hb] at h1
        cases h1
      · exact no z
  | .tuple ps, _, _, h, r => by
    cases h with
    | tup h1 h2 =>
      cases r
      obtain ⟨its, rv, ⟨o, ho, hc, n, hd⟩, _⟩ := I.tuple (SqT.of (K := X.K) h1)
      obtain ⟨as, q, no⟩ := DQs.reads I hb h2 rv
      have e : its.toArray.toList = its := by simp
      exact ⟨as, .tuple ho hc hd (by rw [e]; exact q), no⟩
  | .dict ps, _, _, h, r => by
    cases h with
    | dT h1 h2 =>
      cases r
      rename_i a xs
      obtain ⟨_, hd, ys, rel, o, es, ep, ho, hx, hdat, he, _⟩ := dt_rd I.hok h1
      obtain ⟨bs, q1, q2, no⟩ := DQt.reads I hb h2 rel
      have e1 : es.toList.map (·.key) = ys.map fun y => Value.ref y.2.1 := by rw [he, List.map_map]; rfl
      have e2 : es.toList.map (·.val) = ys.map fun y => y.2.2 := by rw [he, List.map_map]; rfl
      refine ⟨a :: [] ++ bs, .dict ho hx.1 hdat (by rw [e1]; exact q1) (by rw [e2]; exact q2), fun z => ?_⟩
      rcases List.mem_cons.mp z with z | z
      · rw [z] at hd
        exact absurd hd (by simp)
      · exact no z
theorem DQs.reads (I : L2.Inv X pins σ H s) (hb : H sysModules = none) : ∀ {ps : List PyData} {vs : List V} {us : List Value}, DQs H vs ps → Vals vs us → ∃ as, ReadsAll s.heap us ps as ∧ sysModules ∉ as
  | [], _, _, h, r => by
    cases h
    cases r
    exact ⟨_, .nil, List.not_mem_nil⟩
  | p :: ps, _, _, h, r => by
    cases h with
    | cons h1 h2 =>
      cases r with
      | cons r1 r2 =>
        obtain ⟨as, q1, n1⟩ := DQ.reads I hb h1 r1
        obtain ⟨bs, q2, n2⟩ := DQs.reads I hb h2 r2
        exact ⟨_, .cons q1 q2, fun z => (List.mem_append.mp z).elim n1 n2⟩
theorem DQt.reads (I : L2.Inv X pins σ H s) (hb : H sysModules = none) : ∀ {ps : List (PyData × PyData)} {kvs : List (List Key × V)} {ys : List (List Key × Addr × Value)}, DQt H kvs ps → KT H kvs ys → ∃ bs, ReadsAll s.heap (ys.map fun y => Value.ref y.2.1) (ps.map (·.1)) [] ∧ ReadsAll s.heap (ys.map fun y => y.2.2) (ps.map (·.2)) bs ∧ sysModules ∉ bs
  | [], _, _, h, r => by
    cases h
    cases r
    exact ⟨_, .nil, .nil, List.not_mem_nil⟩
  | (k, p) :: ps, _, _, h, r => by
    cases h with
    | cons h1 h2 =>
      cases r with
      | cons r1 r2 =>
        obtain ⟨_, r12, r13⟩ := r1
        obtain ⟨as, q1, n1⟩ := DQ.reads I hb h1 r13
        obtain ⟨bs, q2, q3, n2⟩ := DQt.reads I hb h2 r2
        exact ⟨_, ReadsAll.cons (as := []) (bs := []) (tupQ I r12) q2, .cons q1 q3, fun z => (List.mem_append.mp z).elim n1 n2⟩
end
end
/-- what is shown of lists and tuples -/
def showsQ (p : PyData) (J : O → Prop) : Prop := p.showable = true ∧ p.depth ≤ 60 ∧ p.shown.length ≤ sizeLine ∧ J (.d (.str p.shown))
/-- != of two texts -/
def neS : D → D → Option O
  | .str a, .str b => some (.d (.bl (!decide (a = b))))
  | _, _ => none
end Q
namespace Q
open PySem L2 PySem.Spec PyProof.Rows
theorem g_neS : OpG rNe neS := fun c W st σ H v1 v2 d1 d2 o Q P t1 t2 e h => by
  unfold neS at e
  split at e
  · rename_i a b
    cases e
    cases t1
    cases t2
    refine ⟨by trivial, ?_⟩
    have : (decide (V.str a = V.str b)) = decide (a = b) := by
      rw [Bool.eq_iff_iff]
      simp
    show Q (.bl (!decide (V.str a = V.str b))) _
    rw [this]
    exact h.d P (.bl _)
  · cases e
section
variable {P : Program} {w : World} {K : PySem.W.Frag} {mg : Str → Option Value} {base : Heap}
/-- a def's body as a function of plain data, where no repr is under way -/
theorem fnMG {x qual : Str} {st : Stmt} {f : Addr} {fd : FuncData} {N ps : List Str} {k : Nat} {b : Sx} {rw : Bool} (F : Fun K x qual st f fd) (S : FnScope N ps (defScope st)) (hN : ps.length ≤ N.length)
    (hb : ∀ (cdv : Value) (A : Around) (outer : List Env) (s : Shared) (H : Hp) (E : XK), A.guards = some [] → Room k (A.deeper (envOfC qual (defScope st) s.heap.objs.size f cdv)) → PXB (cxOf (L2.CX P w) P w K mg base N qual (defScope st) f cdv A outer s H E) (defBody st) b) :
    FnOkG P w K mg base (L2.CX P w) (k + 1) f fd ps (spM rw ps.length (mk rw N.length b)) := by
  refine okG F S (fun vs H Q E h => ?_) fun cdv A outer s H vs Q E hr hg h => ?_
  · obtain ⟨W, S', H1, ds, Q0, E0, _, _, r, hl, _⟩ := h
    rw [r.length]
    exact hl
  · obtain ⟨W, S', H1, ds, Q0, E0, rfl, B, r, hl, q, kr, ke⟩ := h
    have hb' := hb cdv A outer s (lockH W.L H1) E hg hr
    refine ⟨_, pssUnl (hb' ⟨W, H1, rw, fun C fs st => E0 C fs st.S, fun _ => False⟩ ?_), ?_⟩
    · refine Takes.imp (takesUnl (takes_of rfl rfl rfl rfl)) ?_
      rintro cls od σ H ⟨W', st', H2, C, fs, rfl, P', rfl, ex, e0⟩
      obtain ⟨un, s1, B1⟩ := P'.exit (X := cxOf (L2.CX P w) P w K mg base N qual (defScope st) f cdv A outer s (lockH W.L H1) E) B (fun _ _ _ z => z)
      exact ⟨_, un, ke C fs st'.S od _ H2 e0 s1 P'.new B1 rfl ex⟩
    · refine ⟨W, st0 rw N.length ds S', H1, ⟨fun st => Q0 (.d .non) st.S, fun o st => Q0 o st.S, fun _ => False, fun _ => False⟩, rfl, pre0 B r (by omega), ⟨fun st' W' σ' H2 q' P' _ => ?_, fun o st' W' σ' H2 v q' P' _ ov => ?_, fun st' W' σ' H2 q' P' _ => q'.elim, fun st' W' σ' H2 q' P' _ => q'.elim⟩, q⟩
      · obtain ⟨un, s1, B1⟩ := P'.exit (X := cxOf (L2.CX P w) P w K mg base N qual (defScope st) f cdv A outer s (lockH W.L H1) E) B (fun _ _ _ z => z)
        exact ⟨_, un, kr _ _ _ _ H2 q' s1 P'.new B1 rfl (.non : Rp W' H2 .non .non)⟩
      · obtain ⟨un, s1, B1⟩ := P'.exit (X := cxOf (L2.CX P w) P w K mg base N qual (defScope st) f cdv A outer s (lockH W.L H1) E) B (fun _ _ _ z => z)
        exact ⟨_, un, kr _ _ _ _ H2 q' s1 P'.new B1 rfl (RO.of_OV ov)⟩
end
end Q
/-! a def whose whole body reads the tables of databases as plain data; it changes nothing and tells something flat -/
namespace Q
open PySem L2 PySem.Spec PyProof.Rows
def Wd.back (W W' : Wd) : Wd := { W with F := fun a => W'.F a ∧ (W.own a → W.F a) }
theorem RO.back {W W' : Wd} {S : List Cell} {H1 H2 : Hp} {v : V} {o : O} (B : Base false W S H1) (h : RO W' H1 H2 v o) (hf : flO o = true) : RO (W.back W') H1 H2 v o := by
  have nown : ∀ {a : Addr}, H1 a = none → ¬ (W.back W').own a := by
    intro a q3 z
    obtain ⟨u, e, _⟩ := B.own_there (show W.own a from z)
    rw [q3] at e
    cases e
  have go : ∀ {a : Addr}, OwnAt W' H2 a o → ¬ W'.F a → H1 a = none → OwnAt (W.back W') H2 a o ∧ ¬ (W.back W').F a ∧ ¬ (W.back W').own a ∧ H1 a = none := fun {a} q1 q2 q3 => ⟨q1.flat hf, fun z => q2 z.1, nown q3, q3⟩
  cases o with
  | un => exact h
  | d x => exact Rep.flat h hf
  | lst _ => obtain ⟨a, h1, h2, h3, h4, h5⟩ := h; exact ⟨a, h1, go h2 h3 h5⟩
  | dK _ => obtain ⟨a, h1, h2, h3, h4, h5⟩ := h; exact ⟨a, h1, go h2 h3 h5⟩
  | dT _ => obtain ⟨a, h1, h2, h3, h4, h5⟩ := h; exact ⟨a, h1, go h2 h3 h5⟩
  | ins _ _ _ => obtain ⟨a, h1, h2, h3, h4, h5⟩ := h; exact ⟨a, h1, go h2 h3 h5⟩
end Q
/-! sorted(d.items()), the keys tuples of texts, the values whole numbers, any number of items -/
/-! sorted(d.items()) of any number of items, over plain data -/
/-! sorted(d), the keys tuples of texts -/
/-! dict(pairs), the keys unlike tuples; sorted(d) over plain data -/
namespace Q
open PySem L2 PySem.Spec PyProof.Rows L2.DX
/-! over plain data -/
theorem RepT.keys {φ F H} : ∀ {vs : List (List Key × V)} {ds : List (List Key × D)}, RepT φ F H vs ds → vs.map (·.1) = ds.map (·.1)
  | _, _, .nil => rfl
  | _, _, .cons h t => by rw [List.map_cons, List.map_cons, t.keys]
end Q
/-! o.m(k=v); a list times a number; repr of a dict with tuple keys -/
/-! keywords of a plain def -/
/-! x = {k: v for ..} on one line -/
/-! x = {k: v for ..} on one line, over plain data -/
/-! a, b, c = x, y, z where a name is used in a comprehension; a comprehension within a comprehension -/
/-! a comprehension over the list that a slot bears: the slot goes on bearing it -/
namespace Q
open PySem PySem.Spec PyProof.Rows L2
theorem walkGE {l : PySem.W.OpenLaw} {q : Program} {loose : List Str} {XP : (Str → Option Value) → Heap → Prop} {YP : World → Heap → Prop} {d : DefRec} (k : Nat) (hk : Room k callerA) (hn : l.most = some 63) (hdf : d.params.defaults = []) (hq : importsNone q = true)
    (F : ∀ (w : World) (mg : Str → Option Value) (fa : Addr) (h : Heap), YP w h → h.Ns mainGlobals mg → mg d.name = some (.ref fa) →
      ∃ (K : Frg) (fd : FuncData), K.In h ∧ (∀ (s : Shared) (u : Value), BindsTo s fd ⟨[u], []⟩ [("_law_script", u)]) ∧ ∀ base : Heap, K.In base → base.Ns mainGlobals mg → (∃ o, base.get? sysModules = some o) → FnOkG l.prog w K mg base (L2.CX l.prog w) k fa fd ["_law_script"] (spLaw K)) :
    PySem.W.WalkO q loose XP YP l.row.toRowW d [] (fun f vs => PySem.call f vs) := by
  refine Att.attach_call hn hdf fun w s₀ s₁ mg mb fa o pm cd doc a vs ns G Y ho hd hcd hmg hobj hints hlen hg => ?_
  obtain ⟨K, fd, hK, hb, hF⟩ := F w mg fa _ Y G.T.g hmg
  refine lawG_call hK G.T.g G.T.b G.T.builtins G.T.nolimit hg hobj hints (Nat.le_trans hlen (by decide)) hk (let ⟨mm, h, _⟩ := (G.T.seer hq).mods; ⟨mm, h⟩) hF hb (fun H hS => ⟨a, ns, rfl, hS, hlen, fun _ => rfl⟩) fun H e s' z => ?_
  obtain ⟨_, _, _, _, _, _, _, _, _, _, _, _, f⟩ := z
  exact f
end Q
/-! static methods; keyword-only arguments that are not given -/
/-! f(..)(..): an instance that is called where it is made -/
/-! repr of a truth -/
/-! a comprehension in a comprehension, with names of the outer one -/
namespace Q
open PySem L2 PySem.Spec PyProof.Rows
theorem pe_neg {X : Cx} {n : Int} {k : Nat} {p1 p2 : Pos} : PE X (.UnaryOp .USub (.Constant (.int n) k p1) p2) (tC (.int (-n))) := peOf (pe_un un_neg pe_int) fun σ H Q h => ⟨n, rfl, h⟩
end Q
/-! own errors whose constructor says super().__init__(..), over any built-in error -/
namespace Q
open PySem L2 PySem.Spec PyProof.Rows NdefX Builtin.ObjectAttr
/-- a built-in error: what the kit knows of it -/
structure BErr (B newId initId : String) (tl : List Value) : Prop where
  F : ExcBaseFacts B newId initId tl
  st : StoreFacts B tl "object.__setattr__" "object"
  kf : PySem.W.KxsFacts B initId
theorem bValue : BErr "ValueError" "ValueError.__new__" "ValueError.__init__" [.type "ValueError", .type "Exception", .type "BaseException", .type "object"] := ⟨F.excBase_ValueError, F.store_ValueError, PySem.W.kxs_ValueError⟩
/-- what the written part says of an own error over B -/
structure ExB (K : Frg) (C : Addr) (B newId initId : String) (tl : List Value) : Prop where
  b : BErr B newId initId tl
  ini : PySem.W.excInitIn K C tl newId = true
  ovr : PySem.W.excOver K C tl = true
  dct : PySem.W.hasDictIn K C = true
  sa : PySem.W.findIn K (.ref C) "__setattr__" = some (some (.builtin "object.__setattr__"))
  be : PySem.W.subIn K (.ref C) (.type "BaseException") = some true
  isB : PySem.W.subIn K (.ref C) (.type B) = some true
  ty : PySem.W.typeIn K (.ref C) = some (.type "type")
  kp : PySem.W.keepIn K (.ref C) = true
abbrev excA (C t : Addr) (d : Option Addr) : Obj := { cls := .ref C, dict := d, data := .fields #[.ref t, .none, .none, .none, .bool false, .none] }
section
variable {X : Cx} {pins : List (Addr × Obj)} {σ : L2.St} {H : Hp} {s : Shared} {a C dx : Addr} {f : Str} {y : V} {u : Value} {fs : List (Str × V)} {Q : Unit → Shared → Prop} {E : Value → Shared → Prop} {A : Around} {B newId initId : String} {tl : List Value}
/-- self.f = y where no field is yet -/
theorem exb_set0 (T : ExB X.K C B newId initId tl) (I : L2.Inv X pins σ H s) (e : H a = some (exo a C none)) (hf : PySem.W.takerIn X.K C f = some none) (ry : RelV y u)
    (h : ∀ dx s', H dx = none → dx ≠ a → L2.Inv X pins σ (upd (upd H dx (exd dx [(f, y)])) a (exo a C (some dx))) s' → Q () s') : wpAny (model X.prog X.w) A (setAttr (.ref a) f u) Q E s := by
  obtain ⟨t1, ho⟩ := exo_at I.hok e
  obtain ⟨cd, hc, hd⟩ := PySem.W.any_some T.dct
  obtain ⟨h0, g0, d0, t0, o0⟩ := s
  refine PySem.W.set_plain I.kIn (ox := excA C t1 none) (od := none) ⟨ho, rfl, rfl, trivial⟩ T.sa ?_
  refine PySem.W.osa_openX (od := none) T.b.st I.kIn ⟨ho, rfl, rfl, trivial⟩ T.ovr hf fun b => ?_
  refine wpAny_bind (wpAny_pure (wpAny_bind (PySem.W.instanceDict_exc ho (PySem.W.looks_clsIn I.kIn hc) hd ?_)))
  have la := Heap.lt_size ho
  have ns : a ≠ h0.objs.size := Nat.ne_of_lt la
  have ho1 : (h0.push (PySem.W.dictOf [] 0)).get? a = some (excA C t1 none) := Heap.get?_push_of_some _ ho
  show wpAny _ _ (storeInDict h0.objs.size (.str f t0) f u) _ _ _
  refine PySem.HandSPX.store_in_new ⟨_, #[], _, (Heap.get?_update_ne _ _ _ _ ns.symm).trans (Heap.get?_push_at rfl rfl), rfl, fun e he => absurd he (by simp), fun _ => rfl⟩ fun h' tk' hn hs => ?_
  have hnd : H h0.objs.size = none := I.hok.fresh (Nat.le_refl _)
  have kk : ∀ b o, b ≠ a → h0.get? b = some o → h'.get? b = some o := fun b o hb q => (hs.2 b (Nat.ne_of_lt (Heap.lt_size q))).trans ((Heap.get?_update_ne _ _ _ _ hb).trans (Heap.get?_push_of_some _ q))
  have hx : h'.get? a = some (excA C t1 (some h0.objs.size)) := (hs.2 a ns).trans (Heap.get?_update_self _ ho1 rfl)
  have nA : ∀ {b : Addr}, H b = none → b ≠ a := fun {b} n z => by rw [z, e] at n; cases n
  have nD : ∀ {b : Addr} {o : Obj}, h0.get? b = some o → b ≠ h0.objs.size := fun {b o} q => Nat.ne_of_lt (Heap.lt_size q)
  have un : Un X.fs [] H (upd (upd H h0.objs.size (exd h0.objs.size [(f, y)])) a (exo a C (some h0.objs.size))) h0 h' := {
    keep := fun b o q n _ _ => kk b o (nA n) q
    slot := fun b o q n _ _ => ⟨o.slots, kk b o (nA n) q⟩
    free := fun b o q n _ => (upd_ne (nA n)).trans ((upd_ne (nD q)).trans n)
    there := fun b o q _ => by
      by_cases hb : b = a
      · exact ⟨_, by rw [hb]; exact hx⟩
      · exact ⟨o, kk b o hb q⟩
    tups := fun b xs q => (upd_ne (at_ne e q exo_tup)).trans ((upd_ne (ne_of_none q hnd)).trans q)
    frzs := fun b o v q => (upd_ne (at_ne e q exo_frz)).trans ((upd_ne (ne_of_none q hnd)).trans q)
    tbls := fun b ps q => ⟨#[], by rw [upd_ne (at_ne e q exo_tbl), upd_ne (ne_of_none q hnd), q]; simp⟩ }
  show Q () ⟨h', g0, d0, tk', o0⟩
  refine h _ _ hnd ns.symm (I.un (t' := tk') un fun b o q => ?_)
  by_cases hb : b = a
  · rw [hb, upd_same] at q
    cases q
    rw [hb]
    exact exo_ok hx
  rw [upd_ne hb] at q
  by_cases hd : b = h0.objs.size
  · rw [hd, upd_same] at q
    cases q
    rw [hd]
    exact exd_ok hn (relO_put (fs := []) ry fun g => True.intro)
  rw [upd_ne hd] at q
  refine (I.hok b o q).stay (fun c v hc z => kk c v (hc.elim (fun hc => by rw [hc]; exact hb) fun hc => at_ne e hc exo_own) z) (fun c hc => ?_) fun c xs hc => ?_
  · exact (upd_ne (at_ne e hc exo_own)).trans ((upd_ne (ne_of_none hc hnd)).trans hc)
  · exact (upd_ne (at_ne e hc exo_tup)).trans ((upd_ne (ne_of_none hc hnd)).trans hc)
/-- .. where there are some -/
theorem exb_setN (T : ExB X.K C B newId initId tl) (I : L2.Inv X pins σ H s) (e : H a = some (exo a C (some dx))) (ed : H dx = some (exd dx fs)) (hl : fs.length ≤ 900) (hf : PySem.W.takerIn X.K C f = some none) (ry : RelV y u)
    (h : ∀ s', L2.Inv X pins σ (upd H dx (exd dx ((f, y) :: fs))) s' → Q () s') : wpAny (model X.prog X.w) A (setAttr (.ref a) f u) Q E s := by
  obtain ⟨t1, ho⟩ := exo_at I.hok e
  obtain ⟨mA, hns, rel⟩ := exd_at I.hok ed
  obtain ⟨cd, hc, hd⟩ := PySem.W.any_some T.dct
  have hw := within_of rel
  obtain ⟨h0, g0, d0, t0, o0⟩ := s
  obtain ⟨oD, _, _, hoD, _, _⟩ := hns.count hw
  refine PySem.W.set_plain I.kIn (ox := excA C t1 (some dx)) (od := some oD) ⟨ho, rfl, rfl, hoD⟩ T.sa ?_
  refine PySem.W.osa_openX (od := some oD) T.b.st I.kIn ⟨ho, rfl, rfl, hoD⟩ T.ovr hf fun b => ?_
  refine wpAny_bind (wpAny_pure (wpAny_bind (wpAny_bind (wpAny_loadPart ho (wpAny_bind ((PySem.W.looks_clsIn (M := model X.prog X.w) I.kIn hc).at ?_))))))
  rw [hd]
  refine wpAny_pure (a := some dx) ?_
  refine PySem.OEX.store_in_old hns hw (by rw [List.length_map]; omega) fun h' tk' hn hs => ?_
  obtain ⟨oN, _, _, hoN, _⟩ := id hn
  show Q () ⟨h', g0, d0, tk', o0⟩
  exact h _ (I.write (t' := tk') (x := dx) (e := dx) (o := exd dx ((f, y) :: fs)) (by rw [ed]; exact True.intro) (.inl rfl) (fun b o hb q => (hs.2 b hb).trans q) ⟨oN, hoN⟩ (exd_ok hn (relO_put ry rel)))
/-- the built-in's __init__ bound to the error, called -/
theorem exb_init {q : Addr} {us : List Value} {Q : Value → Shared → Prop} (T : ExB X.K C B newId initId tl) (I : L2.Inv X pins σ H s) (e : H a = some (exo a C none)) (hq : s.heap.get? q = some (PySem.W.kxs_mw initId a)) (hl : us.length ≤ sizeLine) (h : ∀ s', L2.Inv X pins σ H s' → Q .none s') :
    wpAny (model X.prog X.w) A (call (.ref q) us) Q E s := by
  obtain ⟨t1, ho⟩ := exo_at I.hok e
  obtain ⟨nm, N', qn, bs, bm, hdct, sn, sub, ab, col, dd, k0, k1, k2, k3, k5, hC, hT⟩ := PySem.W.excInit_of I.kIn T.ini
  have eu : upd H a (exo a C none) = H := funext fun b => if hb : b = a then by rw [hb, upd_same, e] else upd_ne hb
  obtain ⟨h0, g0, d0, t0, o0⟩ := s
  refine wpAny_call (codeAny_of_tree (show wpAny _ A.in1 (callAny (.ref q) ⟨us, []⟩) _ _ _ from ?_))
  unfold callAny
  refine wpAny_bind (wpAny_load hq ?_)
  simp only [show (Value.type "method-wrapper" == Value.type "method" || Value.type "method-wrapper" == Value.type "builtin_function_or_method" || Value.type "method-wrapper" == Value.type "method-wrapper") = true from by decide, if_true]
  refine PySem.W.KFB.if_so (by decide) (wpAny_bind (PySem.W.check_bound_init T.b.F.toExcCallFacts hC ho rfl (wpAny_bind (wpAny_pure (wpAny_pure ⟨plainId_quiet T.b.F.init.plain _, codeAny_builtin T.b.F.initEntry ?_⟩)))))
  rw [Around.under_plainId T.b.F.init.plain _]
  refine PySem.W.exc_init_tree (cls := .ref C) (t0 := t1) (dv := none) (c2 := .none) (c3 := .none) (b4 := .bool false) ho hl fun h' k hx _ => ?_
  have J := I.write (t' := t0) (x := a) (e := a) (o := exo a C none) (by rw [e]; exact True.intro) (.inl rfl) k ⟨_, hx⟩ (exo_ok hx)
  rw [eu] at J
  exact h _ J
end
end Q
/-! super().__init__(..) at an own error; its constructor; an own error made -/
namespace Q
open PySem L2 PySem.Spec PyProof.Rows NdefX
section
variable {X : Cx} {B newId initId : String} {tl : List Value}
/-- what super() needs in the constructor of the error C: the def at f, __class__ in slot j -/
structure SupE (X : Cx) (C : Addr) (initId : String) (sn : Str) (j : Nat) : Prop where
  su : X.env.kindOf "super" = some .globalImplicit
  cl : X.env.kindOf "__class__" = some .free
  fn : ∃ (f : Addr) (o : Obj) (fd : FuncData) (ar : Arg), X.env.func = some f ∧ X.K.lookup f = some o ∧ o.data = .func fd ∧ (fd.params.posonlyargs ++ fd.params.args).head? = some ar ∧ ar.arg = sn
  cd : ∃ (cda : Addr) (o : Obj) (vs : Array Value) (file : Str) (tf : Tok), X.env.code = .ref cda ∧ X.K.lookup cda = some o ∧ o.data = .fields vs ∧ vs[2]? = some (.str file tf) ∧ ((X.prog.main.file : Str) == file) = true
  top : (X.prog.main.scope.names.lookup ("super" : Str)).isSome = false
  mg : X.mg "super" = none
  n0 : X.N[0]? = some sn
  k0 : X.env.kindOf sn = some .local
  nj : X.N[j]? = some "__class__"
  sub : PySem.W.mroIn X.K C (.ref C) = some true
  op : PySem.W.nsIn X.K cStatics "thirdparty.any" = some none
  me : PySem.W.ks_superIn X.K C C "__init__" = some (some (.builtin initId))
theorem callW_mw {M : Model} {A : Around} {E : Value → Shared → Prop} {s : Shared} {u x : Addr} {i : String} {pos : Pos} {env : Env} {e : Expr} {es : List Expr} {Q : Value → Shared → Prop} (he : starEach (e :: es) env = (false, eval e env) :: starEach es env) (hp : (backTo pos (starEach es env)).any (·.1) = false)
    (h : wpAny M A (spliced (backTo pos (starEach (e :: es) env))) (fun vs s1 => PySem.W.KxsAt i u x s1.heap ∧ wpAny M A (call (.ref u) vs) Q E s1) E s) : wpAny M A (callWith pos (.ref u) [] (backTo pos (starEach (e :: es) env)) []) Q E s := by
  rw [he] at h ⊢
  exact PySem.W.kxs_callWith (i := i) (x := x) (show (false || (backTo pos (starEach es env)).any (·.1)) = false by rw [hp]; rfl) (PySem.Calls.evalArgs_plain h)
def tSupE (C : Addr) (j : Nat) (t : TA) (t2 : TS) : TS := fun Ds σ H => ∃ x, σ[0]? = some (some (.ref x)) ∧ σ[j]? = some (some (.ref C)) ∧ H x = some (exo x C none) ∧ t σ H fun vs H1 => vs.length ≤ 1000 ∧ H1 x = some (exo x C none) ∧ t2 Ds σ H1
theorem psat_supE {C : Addr} {sn : Str} {j : Nat} {e : Expr} {es : List Expr} {p0 p1 ap pos pos' : Pos} {rest : List Stmt} {body : List Stmt} {t : TA} {t2 : TS} {pl : Sem Bool} (T : ExB X.K C B newId initId tl) (A : SupE X C initId sn j) (ha : PA X (e :: es) t) (h2 : PSat X (.func body X.env) rest t2)
    (hi : interactive X.env = false) (hsw : swapsWith (.Call (.Attribute (.Call (.Name "super" p0) [] [] p1) "__init__" ap) (e :: es) [] pos) none pos'.line X.env = pure false)
    (hst : starEach (e :: es) X.env = (false, eval e X.env) :: starEach es X.env := by rfl) (hpl : (backTo pos (starEach es X.env)).any (·.1) = false := by rfl)
    (ht : eval (.Call (.Attribute (.Call (.Name "super" p0) [] [] p1) "__init__" ap) (e :: es) [] pos) X.env = (do let ov ← attributeBase (.Call (.Name "super" p0) [] [] p1) "__init__" X.env (eval (.Call (.Name "super" p0) [] [] p1) X.env); standAt ap.atName; let (f, first) ← holding [ov] (getMethod ov "__init__" pl); callWith pos f first (backTo pos (starEach (e :: es) X.env)) []) := by rfl) :
    PSat X (.func body X.env) (.Expr (.Call (.Attribute (.Call (.Name "super" p0) [] [] p1) "__init__" ap) (e :: es) [] pos) pos' :: rest) (tSupE C j t t2) := by
  refine ⟨fun pins s σ H Ds I q => ?_⟩
  obtain ⟨x, s0, sj, ex, q⟩ := q
  obtain ⟨f, of, fd, ar, e1, e2, e3, e4, e5⟩ := A.fn
  obtain ⟨cda, oc, vs, file, tf, c1, c2, c3, c4, c5⟩ := A.cd
  have kin := I.kIn
  refine PySem.ks_wpAt_execs_cons (PySem.ks_wpAt_Expr_any (PySem.ks_wpAt_MethodCall (pl := pl) ?_ ht) hi hsw)
  refine PySem.ks_wpAt_super_base (env := X.env) A.su A.cl (by decide +kernel) e1 (kin _ _ e2) e3 e4 c1 (kin _ _ c2) c3 c4 c5 A.top ?_
  obtain ⟨mb, b1, b2⟩ := I.mod.blt
  refine PySem.W.ks_loadName_global I.ok.kind A.su (Calls.loadGlobal_builtin (by rw [I.ok.glob]; exact I.mod.glob.keeps I.bk) A.mg (by rw [I.ok.blt]; exact b1.keeps I.bk) ((b2 _ (by decide +kernel)).trans (show bootBuiltins "super" = some (.type "super") by decide +kernel)) ⟨rfl, ?_⟩)
  obtain ⟨m, hn, hl⟩ := I.loc
  obtain ⟨u, ru, lu⟩ := hl j "__class__" (.ref C) A.nj sj (.inr (.inr A.cl))
  obtain rfl : u = .ref C := ru
  obtain ⟨u0, ru0, lu0⟩ := hl 0 sn (.ref x) A.n0 s0 (.inl A.k0)
  obtain rfl : u0 = .ref x := ru0
  rcases lu with ⟨kl, _⟩ | ⟨_, c0, hc0, cell0⟩
  · rw [A.cl] at kl
    cases kl
  rcases lu0 with ⟨k0, m0⟩ | ⟨kc, _⟩
  · refine wpAny_loadName_free I.ok.kind A.cl hc0 cell0 ?_
    rw [e5]
    refine wpAny_loadName_local I.ok.kind A.k0 hn m0 ?_
    obtain ⟨cdC, hC, hdC⟩ := PySem.W.any_some T.dct
    obtain ⟨oD, cdD, d1, d2⟩ := clsIn_at kin (by rw [hC]; rfl)
    obtain ⟨hh, g, d, tk, os⟩ := s
    refine PySem.ks_wpAny_isType_cls d1 d2 ⟨rfl, ?_⟩
    obtain ⟨t1, ho⟩ := exo_at I.hok ex
    have J : PySem.W.InstAt hh x (excA C t1 none) C none := ⟨ho, rfl, rfl, trivial⟩
    refine PySem.ks_wpAny_call_super d1 d2 J.at_ J.cls (fun c z => by cases z) (PySem.W.looks_mroIn kin A.sub) fun h' so keep => ?_
    · have I1 : L2.Inv X pins σ H ⟨h', g, d, tk, os⟩ := I.kept keep
      have kin1 := I1.kIn
      have me := A.me
      unfold PySem.W.ks_superIn at me
      rw [hC, Option.bind_some] at me
      have J1 : PySem.W.InstAt h' x (excA C t1 none) C none := ⟨keep _ _ ho, rfl, rfl, trivial⟩
      refine PySem.W.kxs_getMethod T.b.kf so (PySem.W.looks_opaque kin1 A.op) (l₀ := cdC.mro) (fun A' Q' E' s' k' z => wpAny_bind ((PySem.W.looks_clsIn kin1 hC) A' _ E' s' k' (wpAny_pure z))) rfl kin1 me (J1.type.andThen (PySem.W.looks_subIn kin1 T.isB)) (PySem.W.ks_ne kin J hC) (by decide +kernel) ?_
      have I2 : L2.Inv X ((h'.objs.size, PySem.W.kxs_mw initId x) :: pins) σ H ⟨h'.push (PySem.W.kxs_mw initId x), g, d, tk + 1, os⟩ := ClX.pin_new I1 (fun b o z => Heap.get?_push_of_some _ z) (Nat.le_refl _) (Heap.get?_push_at rfl rfl) (fun v z => by cases z)
      refine callW_mw (i := initId) (x := x) hst hpl ?_
      refine thn (ha.run pos _ _ σ H _ I2 q) fun us s3 ⟨vs', H2, I3, rv, lv, ex2, q2⟩ => ⟨ClX.pin_at I3, ?_⟩
      refine thn (Q := fun v s' => v = Value.none ∧ L2.Inv X pins σ H2 s') (exb_init T I3 ex2 (ClX.pin_at I3) (by rw [← rv.length, sizeLine_eq]; omega) fun s' I4 => ⟨rfl, ClX.unpin I4⟩) fun u s4 z => ?_
      exact h2.run pins s4 σ H2 Ds z.2 q2
  · rw [A.k0] at kc
    rcases kc with kc | kc <;> cases kc
/-- self.f = e, in the constructor of an error -/
def tSetE (K : Frg) (f : Str) (to te : TE) : TS := fun D σ H => te σ H fun y H1 => to σ H1 fun x H2 => ∃ (a C : Addr) (B newId initId : String) (tl : List Value), x = .ref a ∧ ExB K C B newId initId tl ∧ PySem.W.takerIn K C f = some none ∧
  ((H2 a = some (exo a C none) ∧ ∀ dx, H2 dx = none → dx ≠ a → D.nx σ (upd (upd H2 dx (exd dx [(f, y)])) a (exo a C (some dx)))) ∨
    ∃ (dx : Addr) (fs : List (Str × V)), H2 a = some (exo a C (some dx)) ∧ H2 dx = some (exd dx fs) ∧ fs.length ≤ 900 ∧ D.nx σ (upd H2 dx (exd dx ((f, y) :: fs))))
theorem ps_setE {o e : Expr} {to te : TE} {f : Str} {p' pos : Pos} (ho : PE X o to) (he : PE X e te) (hs : swapsWith e (some (.Attribute o f p')) pos.line X.env = pure false := by rfl) : PS X (.Assign [.Attribute o f p'] e pos) (tSetE X.K f to te) := ⟨fun pins s σ H D I h => by
  refine plainObj_wpAny_Assign_Attribute (thn (he.run pins s σ H _ I h) fun v s1 ⟨y, H1, I1, r1, q1⟩ => thn (ho.run pins s1 σ H1 _ I1 q1) fun u s2 ⟨x, H2, I2, r2, a, C, B, n1, n2, tl, e1, T, ht, q⟩ => ?_) hs
  subst e1
  obtain rfl : u = Value.ref a := r2
  rcases q with ⟨ea, q⟩ | ⟨dx, fs, ea, ed, hl, q⟩
  · exact exb_set0 T I2 ea ht r1 fun dx s' n ne J => ⟨σ, _, J, q dx n ne⟩
  · exact exb_setN T I2 ea ed hl ht r1 fun s' J => ⟨σ, _, J, q⟩⟩
end
end Q
/-! the constructors of own errors; own errors made -/
namespace Q
open PySem L2 PySem.Spec PyProof.Rows NdefX
section
variable {P : Program} {w : World} {K : PySem.W.Frag} {mg : Str → Option Value} {base : Heap} {B newId initId : String} {tl : List Value}
/-- what super().__init__ of an error needs of the program and of the written part -/
structure SupX (P : Program) (K : PySem.W.Frag) (mg : Str → Option Value) (C c : Addr) (initId : String) : Prop where
  cd : ∃ (oc : Value) (od : Option Addr) (vs : Array Value) (sl : Array (Option Value)) (file : Str) (tf : Tok), K.lookup c = some ⟨oc, od, .fields vs, sl⟩ ∧ vs[2]? = some (.str file tf) ∧ ((P.main.file : Str) == file) = true
  top : (P.main.scope.names.lookup ("super" : Str)).isSome = false
  mg : mg "super" = none
  sub : PySem.W.mroIn K C (.ref C) = some true
  op : PySem.W.nsIn K cStatics "thirdparty.any" = some none
  me : PySem.W.ks_superIn K C C "__init__" = some (some (.builtin initId))
theorem supEAt {x qual sn : Str} {st : Stmt} {f C cc c : Addr} {fd : FuncData} {N : List Str} {A : Around} {outer : List Env} {s : Shared} {H : Hp} {E : XK} {j : Nat} (F : FunS K x qual st f fd cc c C) (S : SupX P K mg C c initId)
    (har : ∃ ar : Arg, ((defArgs st).posonlyargs ++ (defArgs st).args).head? = some ar ∧ ar.arg = sn) (hsu : (defScope st).names.lookup ("super" : Str) = some .globalImplicit) (hcl : (defScope st).names.lookup ("__class__" : Str) = some .free) (hn0 : N[0]? = some sn) (hk0 : (defScope st).names.lookup sn = some .local) (hnj : N[j]? = some "__class__") :
    SupE (ncx (L2.CX P w) P w K mg base N (nfOf st x qual cc c) f A outer s H E) C initId sn j := by
  obtain ⟨oc, kV, doc, pm, ct, cl, od, an, cld, osl, csl, rfl, at_, cell⟩ := F.ex
  obtain ⟨ar, a1, a2⟩ := har
  obtain ⟨coc, cod, vs, sl, file, tf, c1, c2, c3⟩ := S.cd
  exact ⟨hsu, hcl, ⟨f, _, _, ar, rfl, at_, rfl, a1, a2⟩, ⟨c, _, vs, file, tf, rfl, c1, rfl, c2, c3⟩, S.top, S.mg, hn0, hk0, hnj, S.sub, S.op, S.me⟩
/-- the constructor of an error with the fields fl -/
def spE (C : Addr) (fl : List Str) : Sp := fun vs H Q _ => ∃ a ws, vs = .ref a :: ws ∧ ws.length = fl.length ∧ H a = some (exo a C none) ∧ ∀ dx, H dx = none → dx ≠ a → Q .non (upd (upd H dx (exd dx (fl.zip ws).reverse)) a (exo a C (some dx)))
theorem fnE {x qual : Str} {st : Stmt} {f C cc c : Addr} {fd : FuncData} {N ps : List Str} {k : Nat} {sp : Sp} (F : FunS K x qual st f fd cc c C) (S : NScope N ps ["__class__"] (defScope st)) (len : ∀ vs H Q E, sp vs H Q E → vs.length = ps.length)
    (hb : ∀ (A : Around) (outer : List Env) (s : Shared) (H : Hp) (vs : List V) (Q : VK) (E : XK), Room k (A.deeper (envF (nfOf st x qual cc c) f s.heap.objs.size)) → sp vs H Q E →
      ∃ t, PSat (ncx (L2.CX P w) P w K mg base N (nfOf st x qual cc c) f A outer s H E) (.func (defBody st) (envF (nfOf st x qual cc c) f s.heap.objs.size)) (defBody st) t ∧ t { nx := fun _ H' => Q .non H', rt := Q } (startF N vs [some (.ref C)]) H) :
    FnOk P w K mg base (L2.CX P w) (k + 1) f fd ps sp := by
  obtain ⟨oc, kV, doc, pm, ct, cl, od, an, cld, osl, csl, rfl, at_, cell⟩ := F.ex
  exact fn_sup (F := nfOf st x qual cc c) rfl at_ F.code cell S len hb
theorem spE1_go {C : Addr} {f : Str} {vs : List V} {H : Hp} {Q : VK} {E : XK} {sn x : Str} (h : spE C [f] vs H Q E) (T : ExB K C B newId initId tl) (ht : PySem.W.takerIn K C f = some none) :
    tSupE C 2 (tCons (tVar 1) tNil) (fun D σ H => tSetE K f (tVar 0) (tVar 1) { D with nx := fun σ' H' => tNext D σ' H' } σ H) { nx := fun _ H' => Q .non H', rt := Q } (startF [sn, x, "__class__"] vs [some (.ref C)]) H := by
  obtain ⟨a, ws, rfl, hl, ha, q⟩ := h
  match ws, hl, q with
  | [y], _, q => exact ⟨a, rfl, rfl, ha, y, rfl, (show 1 ≤ 1000 by decide), ha, y, rfl, .ref a, rfl, a, C, B, newId, initId, tl, rfl, T, ht, .inl ⟨ha, q⟩⟩
end
section
variable {X : Cx} {B newId initId : String} {tl : List Value} {C : Addr}
theorem exo_back {H : Hp} {a d : Addr} {o1 o2 o3 o4 : HO} (ha : H a = none) (ne : d ≠ a) : upd (L2.del (upd (upd (upd H a o1) d o2) a o3) a) d o4 = upd H d o4 := by
  funext b
  by_cases h1 : b = d
  · rw [h1, upd_same, upd_same]
  · rw [upd_ne h1, upd_ne h1]
    by_cases h2 : b = a
    · rw [h2, L2.del_same, ha]
    · rw [L2.del_ne h2, upd_ne h2, upd_ne h1, upd_ne h2]
/-- C(e, ..): an own error with a constructor of its own -/
theorem pmk_B {x : Str} {fI : Addr} {k : Nat} {fd : FuncData} {ps : List Str} {sp : Sp} {e : Expr} {es : List Expr} {ta : TA} {p pos : Pos} (T : ExB X.K C B newId initId tl) (hi : PySem.W.findIn X.K (.ref C) "__init__" = some (some (.ref fI))) (hf : PySem.W.isFn X.K (.ref fI) = true)
    (F1 : FnOk X.prog X.w X.K X.mg X.base (L2.CX X.prog X.w) k fI fd ps sp) (hr : Room (k + 1) X.A) (hb : Binds X.K fd ps []) (hx : Passes (L2.CX X.prog X.w) X (fun _ _ _ => False)) (hg : Gl X x) (hm : X.mg x = some (.ref C)) (ha : PA X (e :: es) ta)
    (hdb : (x == ("__debug__" : Str)) = false := by decide) (he : starEach (e :: es) X.env = (false, eval e X.env) :: starEach es X.env := by rfl) (hpl : (backTo pos (starEach es X.env)).any (·.1) = false := by rfl) :
    PMk X (.Call (.Name x p) (e :: es) [] pos) (tMkO C sp [] ta) := by
  intro pins s σ H Q I h
  obtain ⟨nm, N', qn, bs, bm, hdct, sn, sub, ab, col, dd, k0, k1, k2, k3, k5, hC, hT⟩ := PySem.W.excInit_of I.kIn T.ini
  obtain ⟨oI, hoI, hcI⟩ : ∃ oI, X.K.lookup fI = some oI ∧ oI.cls = .type "function" := by
    obtain ⟨o, ho, hc⟩ := Option.map_eq_some_iff.mp (show (X.K.lookup fI).map (·.cls) = some (.type "function") from beq_iff_eq.mp hf)
    exact ⟨o, ho, hc⟩
  refine wpAny_Call_Name_kw (ld_glob I hg hm ?_ hdb)
  refine PySem.W.callWith_K (h₀ := X.base) I.ok.mod.kin T.kp (thn (ha.run pos pins s σ H _ I h) fun us s1 ⟨vs, H1, I1, r1, hz, q1⟩ => ⟨I1.kIn, ?_⟩) he hpl
  rw [List.nil_append]
  obtain ⟨nm, N', qn, bs, bm, hdct, sn, sub, ab, col, dd, k0, k1, k2, k3, k5, hC, hT⟩ := PySem.W.excInit_of I1.kIn T.ini
  obtain ⟨h0, g0, d0, t0, o0⟩ := s1
  have hn : H1 (h0.objs.size + 1) = none := I1.hok.fresh (Nat.le_succ _)
  have hq := q1 (h0.objs.size + 1) hn
  rw [List.append_nil] at hq
  have kk : ∀ b o, h0.get? b = some o → ((h0.push (PySem.W.kdv_tup us)).push (PySem.HandSPX.excO C h0.objs.size)).get? b = some o := fun b o z => Heap.get?_push_of_some _ (Heap.get?_push_of_some _ z)
  have hget : ((h0.push (PySem.W.kdv_tup us)).push (PySem.HandSPX.excO C h0.objs.size)).get? (h0.objs.size + 1) = some (PySem.HandSPX.excO C h0.objs.size) := by heap_get
  have I2 : L2.Inv X pins σ (upd H1 (h0.objs.size + 1) (exo (h0.objs.size + 1) C none)) ⟨(h0.push (PySem.W.kdv_tup us)).push (PySem.HandSPX.excO C h0.objs.size), g0, d0, t0, o0⟩ :=
    I1.laid (t' := t0) (a := h0.objs.size + 1) (o := exo (h0.objs.size + 1) C none) kk (Nat.le_succ _) (exo_ok hget)
  have r2 : Vals (V.ref (h0.objs.size + 1) :: vs) (Value.ref (h0.objs.size + 1) :: us) := .cons rfl r1
  have hl : (Value.ref (h0.objs.size + 1) :: us).length = ps.length := r2.length.symm.trans (F1.len _ _ _ _ hq)
  have b := hb _ (Value.ref (h0.objs.size + 1) :: us) I2.kIn (by rw [List.append_nil]; exact hl)
  rw [List.append_nil] at b
  refine wpAny_call (PySem.HandSPX.call_own T.b.F hT hC (PySem.W.looks_findIn I1.kIn hi) (fun self => PySem.W.exc_bind (I1.kIn _ _ hoI) hcI self) (by rw [← r1.length, sizeLine_eq]; omega)
    (codeAny_mono (F1.run _ X.stack _ _ ⟨Value.ref (h0.objs.size + 1) :: us, []⟩ _ _ _ (fun _ _ _ => False) (hr.make C us []) (I2.env0.make C us []) b r2 hq) fun r s' z => ?_))
  cases r with
  | error er => exact hx pins σ _ _ er s' I2 z
  | ok fl =>
    cases fl with
    | ret u =>
      obtain ⟨v, H2, os2, bare2, un2, hok2, rv, ev, d, fs, ea, ed, hd1, q2⟩ := z
      subst ev
      obtain ⟨h2, g2, d2, t2, os'⟩ := s'
      exact ⟨rv, mk_end (raises_own T.be T.ty) I1 (Nat.le_succ _) kk un2 hok2 os2 bare2 ea ed hd1 q2⟩
    | next => exact z.elim
    | brk => exact z.elim
    | cont => exact z.elim
end
end Q
/-! raise of an own error, over plain states -/
namespace Q
open PySem L2 PySem.Spec PyProof.Rows NdefX
theorem RepF.snoc {φ F H} {k : Str} {v : V} {d : D} (h : Rep φ F H v d) : ∀ {xs : List (Str × V)} {ds : List (Str × D)}, RepF φ F H xs ds → RepF φ F H (xs ++ [(k, v)]) (ds ++ [(k, d)])
  | _, _, .nil => .cons h .nil
  | _, _, .cons a t => .cons a (RepF.snoc h t)
theorem repF_zip {φ F H} : ∀ {fl : List Str} {vs : List V} {ds : List D}, RepL φ F H vs ds → RepF φ F H (fl.zip vs).reverse (fl.zip ds).reverse
  | [], _, _, _ => .nil
  | _ :: _, _, _, .nil => .nil
  | k :: fl, _, _, .cons h t => by
    rw [List.zip_cons_cons, List.zip_cons_cons, List.reverse_cons, List.reverse_cons]
    exact (repF_zip t).snoc h
/-- raise C(e, ..): the error with its fields -/
def sRaise (C : Addr) (fl : List Str) (ga : Ax) : Sx := fun E _ st => ga E st fun rs st1 => opt (frzs st1 rs) fun q => q.1.length = fl.length ∧ E C (fl.zip q.1).reverse q.2
section
variable {X : Cx} {B newId initId : String} {tl : List Value} {C : Addr}
theorem pxs_raise {x : Str} {fI : Addr} {k : Nat} {fd : FuncData} {ps fl : List Str} {e : Expr} {es : List Expr} {ga : Ax} {p pos pos' : Pos} (T : ExB X.K C B newId initId tl) (hi : PySem.W.findIn X.K (.ref C) "__init__" = some (some (.ref fI))) (hf : PySem.W.isFn X.K (.ref fI) = true)
    (F1 : FnOk X.prog X.w X.K X.mg X.base (L2.CX X.prog X.w) k fI fd ps (spE C fl)) (hr : Room (k + 1) X.A) (hb : Binds X.K fd ps []) (hg : Gl X x) (hm : X.mg x = some (.ref C)) (hc : X.calm = true) (ha : PXA X (e :: es) ga) (hfl : fl.length ≤ 1000 := by decide)
    (hdb : (x == ("__debug__" : Str)) = false := by decide) (he : starEach (e :: es) X.env = (false, eval e X.env) :: starEach es X.env := by rfl) (hpl : (backTo pos (starEach es X.env)).any (·.1) = false := by rfl) :
    PXS X (.Raise (some (.Call (.Name x p) (e :: es) [] pos)) none pos') (sRaise C fl ga) := fun c l =>
  psOf (ps_raise hc l (pmk_B T hi hf F1 hr hb passL hg hm (ha c l) hdb he hpl)) fun Ds σ H ⟨W, st, H1, K, hH, P, ek, q⟩ => ⟨W, st, H1, _, hH, P, q, fun rs st1 vs W1 H2 q1 s1 P1 rvs => by
    obtain ⟨y, e1, hn, q1⟩ := opt_ex q1
    obtain ⟨W2, s2, P2, r2, eL⟩ := frzs_ok P1 e1 rvs
    have hvl : vs.length = fl.length := r2.length.trans hn
    refine ⟨by omega, fun a na => ⟨a, vs, by rw [List.append_nil], hvl, upd_same, fun dx nx ne => ⟨rfl, dx, _, upd_same, (upd_ne ne).trans upd_same, (upd_ne ne).symm.trans nx, ?_⟩⟩⟩
    rw [exo_back na ne]
    have nx2 : lockH W1.L H2 dx = none := (upd_ne ne).symm.trans nx
    have nh : H2 dx = none := lock_none nx2
    obtain ⟨s3, P3⟩ := P2.alloc (o := .xd (fl.zip vs).reverse) nh
    refine ⟨W2.add dx, y.2, _, C, _, ?_, P3, rfl, ⟨_, .inr rfl, upd_same, (repF_zip r2).fut (P2.fut s3)⟩, q1⟩
    show upd (lockH W1.L H2) dx _ = lockH W2.L _
    rw [eL]
    exact lock_upd (P1.lnone nh)⟩
end
end Q
/-! try .. except C as e, at the top of a def -/
namespace Q
open PySem L2 PySem.Spec PyProof.Rows NdefX
/-! ends that ask nothing of what was before -/
def enOk0 (c : C0) (D : Ends) (K : En) : Prop :=
  (∀ st W σ H, K.nx st → Pre c W st σ H → D.nx σ (lockH W.L H)) ∧ (∀ o st W σ H v, K.rt o st → Pre c W st σ H → OV c W st σ H v o → D.rt v (lockH W.L H)) ∧
  (∀ st W σ H, K.bk st → Pre c W st σ H → D.bk σ (lockH W.L H)) ∧ (∀ st W σ H, K.ct st → Pre c W st σ H → D.ct σ (lockH W.L H))
theorem enOk0.en {c : C0} {D : Ends} {K : En} (h : enOk0 c D K) (W : Wd) (H : Hp) : enOk c W H D K := ⟨fun st W σ H q P _ => h.1 st W σ H q P, fun o st W σ H v q P _ => h.2.1 o st W σ H v q P, fun st W σ H q P _ => h.2.2.1 st W σ H q P, fun st W σ H q P _ => h.2.2.2 st W σ H q P⟩
def tXS0 (c : C0) (f : Sx) : TS := fun D σ H => ∃ W st H1 K, H = lockH W.L H1 ∧ Pre c W st σ H1 ∧ enOk0 c D K ∧ f c.E K st
def PXS0 (X : Cx) (s : Stmt) (f : Sx) : Prop := ∀ c, Lk X c → PS X s (tXS0 c f)
def PXB0 (X : Cx) (s : List Stmt) (f : Sx) : Prop := ∀ c, Lk X c → PSs X s (tXS0 c f)
theorem Pre.chE {c : C0} {W : Wd} {st : Ps} {σ : L2.St} {H : Hp} (P : Pre c W st σ H) (E : EK) : Pre { c with E := E } W st σ H := ⟨P.hrw, P.step, P.new, P.base, P.slen, P.slot, P.sown, P.sapart, P.rsv, P.hvw, P.own0⟩
theorem Pre.unE {c : C0} {W : Wd} {st : Ps} {σ : L2.St} {H : Hp} {E : EK} (P : Pre { c with E := E } W st σ H) : Pre c W st σ H := ⟨P.hrw, P.step, P.new, P.base, P.slen, P.slot, P.sown, P.sapart, P.rsv, P.hvw, P.own0⟩
theorem ov_E {c : C0} {W : Wd} {st : Ps} {σ : L2.St} {H : Hp} {v : V} {o : O} (E : EK) (h : OV { c with E := E } W st σ H v o) : OV c W st σ H v o := by
  cases o <;> exact h
theorem enOk0.ch {c : C0} {D : Ends} {K : En} (h : enOk0 c D K) (E : EK) : enOk0 { c with E := E } D K := ⟨fun st W σ H q P => h.1 st W σ H q P.unE, fun o st W σ H v q P ov => h.2.1 o st W σ H v q P.unE (ov_E E ov), fun st W σ H q P => h.2.2.1 st W σ H q P.unE, fun st W σ H q P => h.2.2.2 st W σ H q P.unE⟩
section
variable {X : Cx} {s : Stmt} {rest : List Stmt} {f g : Sx}
theorem pxs0_of (h : PXS X s f) : PXS0 X s f := fun c l => psOf (h c l) fun D σ H ⟨W, st, H1, K, e, P, ek, q⟩ => ⟨W, st, H1, K, e, P, ek.en W H1, q⟩
theorem pxb0_of (h : PXB X rest f) : PXB0 X rest f := fun c l => pssOf (h c l) fun D σ H ⟨W, st, H1, K, e, P, ek, q⟩ => ⟨W, st, H1, K, e, P, ek.en W H1, q⟩
theorem pxb0_one (h : PXS0 X s f) : PXB0 X [s] f := fun c l => pss_one (h c l)
theorem pxb0_cons (h1 : PXS0 X s f) (h2 : PXB0 X rest g) : PXB0 X (s :: rest) (sSeq f g) := fun c l => pssOf (pss_cons (h1 c l) (h2 c l)) fun D σ H ⟨W, st, H1, K, e, P, ek, q⟩ =>
  ⟨W, st, H1, { K with nx := g c.E K }, e, P, ⟨fun st' W' σ' H' q' P' => ⟨W', st', H', K, rfl, P', ek, q'⟩, ek.2⟩, q⟩
end
section
variable {P : Program} {w : World} {K : PySem.W.Frag} {mg : Str → Option Value} {base : Heap}
theorem fnM0 {x qual : Str} {st : Stmt} {f : Addr} {fd : FuncData} {N ps : List Str} {k : Nat} {b : Sx} {rw : Bool} (F : Fun K x qual st f fd) (S : FnScope N ps (defScope st)) (hN : ps.length ≤ N.length)
    (hb : ∀ (cdv : Value) (A : Around) (outer : List Env) (s : Shared) (H : Hp) (E : XK), Room k (A.deeper (envOfC qual (defScope st) s.heap.objs.size f cdv)) → PXB0 (cxOf (L2.CX P w) P w K mg base N qual (defScope st) f cdv A outer s H E) (defBody st) b) :
    FnOk P w K mg base (L2.CX P w) (k + 1) f fd ps (spM rw ps.length (mk rw N.length b)) := by
  refine F.okX S (fun vs H Q E ⟨W, S', H1, ds, Q0, E0, _, _, r, hl, _⟩ => r.length.trans hl) fun cdv A outer s H vs Q E hr ⟨W, S', H1, ds, Q0, E0, e0, B, r, hl, q, kr, ke⟩ => ?_
  subst e0
  have out : ∀ {st' : Ps} {W' : Wd} {σ' : L2.St} {H2 : Hp}, Pre ⟨W, H1, rw, fun C fs st => E0 C fs st.S, fun _ => False⟩ W' st' σ' H2 → _ := fun P' => P'.exit (X := cxOf (L2.CX P w) P w K mg base N qual (defScope st) f cdv A outer s (lockH W.L H1) E) B (fun _ _ _ z => z)
  refine ⟨_, pssUnl (hb cdv A outer s (lockH W.L H1) E hr ⟨W, H1, rw, fun C fs st => E0 C fs st.S, fun _ => False⟩ (Takes.imp (takesUnl (takes_of rfl rfl rfl rfl)) ?_)), ⟨W, st0 rw N.length ds S', H1, ⟨fun st => Q0 (.d .non) st.S, fun o st => Q0 o st.S, fun _ => False, fun _ => False⟩, rfl, pre0 B r (by omega), ⟨fun st' W' σ' H2 q' P' => ?_, fun o st' W' σ' H2 v q' P' ov => ?_, fun st' W' σ' H2 q' P' => q'.elim, fun st' W' σ' H2 q' P' => q'.elim⟩, q⟩⟩
  · rintro cls od σ H ⟨W', st', H2, C, fs, rfl, P', rfl, ex, e0⟩
    obtain ⟨un, s1, B1⟩ := out P'
    exact ⟨_, un, ke C fs st'.S od _ H2 e0 s1 P'.new B1 rfl ex⟩
  · obtain ⟨un, s1, B1⟩ := out P'
    exact ⟨_, un, kr _ _ _ _ H2 q' s1 P'.new B1 rfl (.non : Rp W' H2 .non .non)⟩
  · obtain ⟨un, s1, B1⟩ := out P'
    exact ⟨_, un, kr _ _ _ _ H2 q' s1 P'.new B1 rfl (RO.of_OV ov)⟩
end
/-! the statement -/
def errD (a : Addr) (od : Option Addr) (C : Addr) (xs : List (Str × D)) : D := match od with
  | some d => .exc a d C xs
  | none => .cls a
def enX (i : Nat) (K : En) : En := ⟨fun s => K.nx { s with ρ := s.ρ.set i .un }, K.rt, fun s => K.bk { s with ρ := s.ρ.set i .un }, fun s => K.ct { s with ρ := s.ρ.set i .un }⟩
def sTry (K0 : Frg) (cv : Value) (i : Nat) (fb : Sx) (fs : Addr → Option Addr → Value → Sx) : Sx := fun E K st =>
  fb (fun C xs st1 => ∃ b, PySem.W.exmOne K0 (.ref C) cv = some b ∧ (b = true → ∀ a od, (od = none → xs = []) → fs a od (.ref C) (fun _ _ _ => False) (enX i K) { st1 with ρ := st1.ρ.set i (.d (errD a od C xs)) }) ∧ (b = false → E C xs st1)) K st
theorem Pre.gone {c : C0} {W : Wd} {st : Ps} {σ : L2.St} {H : Hp} (P : Pre c W st σ H) (i : Nat) : Pre c W { st with ρ := st.ρ.set i .un } (σ.set i none) H := by
  have own : ∀ {j : Nat} {a : Addr}, slotOwns (st.ρ.set i .un) (σ.set i none) j a → slotOwns st.ρ σ j a := fun {j a} z => (owns_set z).elim (fun y => by cases y.2.1) fun y => y.2
  refine ⟨P.hrw, P.step, P.new, P.base, by simp only [List.length_set]; exact P.slen, fun j o e => ?_, fun j a z => P.sown j a (own z), fun j k a z y => P.sapart j k a (own z) (own y), fun a h => ?_, P.hvw, P.own0⟩
  · by_cases q : j = i
    · subst q
      rw [List.getElem?_set, if_pos rfl] at e
      split at e
      · cases e; exact trivial
      · cases e
    · rw [List.getElem?_set_ne (Ne.symm q)] at e ⊢
      exact P.slot j o e
  · obtain ⟨h1, h2, h3, h4⟩ := P.rsv a h
    exact ⟨h1, h2, h3, fun j z => h4 j (own z)⟩
section
variable {X : Cx} {x n : Str} {c : Value} {i : Nat} {body suite : List Stmt} {b₀ : Stmt} {np pos pos' : Pos} {fb : Sx} {fs : Addr → Option Addr → Value → Sx}
theorem pxs0_try {cv : Value} (hs : X.stack = X.env :: X.outer) (hf : X.env.frame = some X.env.locals) (hN : X.N.Nodup) (hi : X.N[i]? = some n) (hln : X.env.kindOf n = some .local) (hc : Names X x cv)
    (hb : ∀ (pn : List (Addr × Obj)) (xe : Value → Shared → Prop), PXB (X.tr pn xe) body fb)
    (hsu : ∀ (a : Addr) (oe : Obj) (cls : Value) (d : Option Addr) (pn : List (Addr × Obj)), Zc cls d oe → (∃ vs, oe.data = .fields vs) → PXB (X.suite a ((a, oe) :: pn)) (b₀ :: suite) (fs a d cls)) :
    PXS0 X (.Try body [.ExceptHandler (some (.Name x np)) (some n) (b₀ :: suite) pos'] [] [] pos) (sTry X.K cv i fb fs) := fun c l => by
  refine psOf (ps_try_as (tb := fun Wi D σ H => ∃ c', (∀ cls d σ H, wish c' cls d σ H → Wi cls d σ H) ∧ tXS c' fb D σ H) (ts := fun a cls d => tXS0 { c with E := fun _ _ _ => False } (fs a d cls)) hs hf hN hi hln hc l (fun Wi pn xe tk _ => ⟨fun pins s σ H D I ⟨c', hw, q⟩ => (hb pn xe c' (tk.imp hw)).run pins s σ H D I q⟩) fun a oe cls d pn hz hd => pxb0_of (hsu a oe cls d pn hz hd) _ fun u s' x => ?_) fun D σ H ⟨W, st, H1, K, hH, P, ek, q⟩ => ?_
  · obtain ⟨_, _, _, _, _, _, _, _, _, _, _, _, _, _, _, _, _, _, _, _, _, _, _, _, _, z⟩ := x
    exact z.elim
  · refine ⟨{ c with E := fun C xs st1 => ∃ b, PySem.W.exmOne X.K (.ref C) cv = some b ∧ (b = true → ∀ a od, (od = none → xs = []) → fs a od (.ref C) (fun _ _ _ => False) (enX i K) { st1 with ρ := st1.ρ.set i (.d (errD a od C xs)) }) ∧ (b = false → c.E C xs st1) }, ?_, W, st, H1, K, hH, P.chE _, (ek.ch _).en W H1, q⟩
    rintro cls d σ' H' ⟨W', st', H2, C, xs, rfl, P', rfl, ex, b, eb, hy, hn⟩
    refine ⟨b, eb, fun hbt a na => ?_, fun hbf => ⟨W', st', H2, C, xs, rfl, P'.unE, rfl, ex, hn hbf⟩⟩
    have hr : Rp W' H2 (.ref a) (errD a d C xs) := by
      cases d with
      | none => exact .cls a
      | some dd =>
        obtain ⟨ys, f1, f2, f3⟩ := ex
        exact .exc f1 f2 f3
    refine ⟨W', _, H2, enX i K, rfl, (P'.unE.chE _).set i hr, ⟨fun st W σ H q P => ek.1 _ W _ H q (P.unE.gone i), fun o st W σ H v q P ov => ek.2.1 o st W σ H v q P.unE (ov_E _ ov), fun st W σ H q P => ek.2.2.1 _ W _ H q (P.unE.gone i), fun st W σ H q P => ek.2.2.2 _ W _ H q (P.unE.gone i)⟩, hy hbt a d fun hd => by subst hd; exact ex⟩
end
end Q
/-! e.f and isinstance(e, C) where e is a caught error -/
namespace Q
open PySem L2 PySem.Spec PyProof.Rows NdefX
section
variable {X : Cx} {a C0 : Addr} {oe : Obj} {cls : Value} {od : Option Addr} {pn : List (Addr × Obj)}
def xXf (i : Nat) (a : Addr) (od : Option Addr) (cls : Value) (C0 : Addr) (f : Str) : Ex := fun _ st Q => cls = .ref C0 ∧ ∃ d xs, st.ρ[i]? = some (.d (.exc a d C0 xs)) ∧ od = some d ∧ opt (xs.lookup f) fun v => Q (.v v) st
theorem px_Xf {n f : Str} {i : Nat} {p pos : Pos} (T : XfC X.K C0) (hno : PySem.W.findIn X.K (.ref C0) f = some none) (hz : Zc cls od oe) (hf : ∃ vs, oe.data = .fields vs) (he : PE (X.suite a ((a, oe) :: pn)) (.Name n p) (tVar i))
    (hb : attributeBase (.Name n p) f X.env (eval (.Name n p) X.env) = eval (.Name n p) X.env := by rfl) : PX (X.suite a ((a, oe) :: pn)) (.Attribute (.Name n p) f pos) (xXf i a od cls C0 f) := fun c l =>
  peOf (pe_xf T hno hz hf he hb) fun σ H Q ⟨W, st, H1, Q0, hH, P, q, k⟩ => by
    obtain ⟨ec, d, xs, e1, e2, q⟩ := q
    obtain ⟨v, e3, q⟩ := opt_ex q
    obtain ⟨u, s1, r⟩ := P.slot i _ e1
    have r' : Rp W H1 u (.exc a d C0 xs) := r
    cases r' with
    | exc h1 h2 h3 =>
      obtain ⟨y, l1, l2⟩ := h3.lookup e3
      subst hH
      exact ⟨.ref a, join_ref s1, rfl, ec, d, _, y, e2, P.nol h2 rfl, l1, k _ _ _ _ _ q (.refl _ _ _) P l2⟩
/-- isinstance of a caught error -/
def rIsD (K : Frg) (C0 a : Addr) (od : Option Addr) (cls : Value) : List V → Hp → VK → Prop := fun xs H Q => ∃ (t : V) (u : Value) (b : Bool), xs = [.ref a, t] ∧ ClsV t u ∧ cls = .ref C0 ∧ (∀ d, od = some d → ∃ fs, H d = some (.xd fs)) ∧ PySem.W.kitOne K (.ref C0) u = some b ∧ Q (.bl b) H
theorem call_isD (T : ExcC X.K C0) (hz : Zc cls od oe) (hf : ∃ vs, oe.data = .fields vs) : CallR (X.suite a ((a, oe) :: pn)) (.builtin "isinstance") (rIsD X.K C0 a od cls) := by
  rintro pins s σ H xs us Q I r ⟨t, u, b, rfl, tu, ec, hd, e, q⟩
  cases r with
  | cons r1 r2 =>
    cases r2 with
    | cons r2 r3 =>
      cases r3
      cases r1
      obtain ⟨vs, hv⟩ := hf
      obtain ⟨hget, _⟩ := I.pin (a, oe) (List.mem_append.mpr (.inl List.mem_cons_self))
      have eu : ∀ {w : Value}, RelV t w → w = u := fun {w} z => by
        cases tu with
        | ty n => exact z
        | own b => exact z
      rw [eu r2]
      have nc : PySem.W.notCls oe = true := by
        unfold PySem.W.notCls
        rw [hv]
      have J : ∃ o', PySem.W.InstAt s.heap a oe C0 o' := by
        cases od with
        | none => exact ⟨none, hget, hz.1.trans ec, nc, by rw [hz.2]; trivial⟩
        | some d =>
          obtain ⟨fs, hx⟩ := hd d rfl
          obtain ⟨mA, ⟨o, _, _, ho, _⟩, _⟩ : ObjOk X.prog X.w H s.heap d (.xd fs) := I.hok d _ hx
          exact ⟨some o, hget, hz.1.trans ec, nc, by rw [hz.2]; exact ho⟩
      obtain ⟨o', J⟩ := J
      have hcl : (PySem.W.clsIn X.K C0).isSome = true := by
        obtain ⟨cd, hc, _⟩ := PySem.W.any_some T.hd
        rw [hc]
        rfl
      exact PySem.W.kia_one (PySem.W.kitx_exc hcl T.hg T.hk T.hs T.ha T.hn T.ht T.hm) I.kIn J e (fun z => nomatch z) fun tk => ⟨.bl b, H, I.kept (t' := tk) fun _ _ z => z, rfl, q⟩
def isiX (K : Frg) (C0 a : Addr) (od : Option Addr) (cls : Value) : Gc := fun ds J => match ds with
  | [.exc a' d C1 _, t] => a' = a ∧ od = some d ∧ C1 = C0 ∧ cls = .ref C0 ∧ opt (clsG t) fun u => opt (PySem.W.kitOne K (.ref C0) u) fun b => J (.d (.bl b))
  | [.cls a', t] => a' = a ∧ od = none ∧ cls = .ref C0 ∧ opt (clsG t) fun u => opt (PySem.W.kitOne K (.ref C0) u) fun b => J (.d (.bl b))
  | _ => False
theorem g_isX (K : Frg) : CallG (rIsD K C0 a od cls) (isiX K C0 a od cls) := fun c W st σ H vs ds Q J P t g k => by
  unfold isiX at g
  split at g
  · obtain ⟨v, u, rfl, t1, t2⟩ := tops_2 t
    obtain ⟨rfl, rfl, rfl, ec, g⟩ := g
    obtain ⟨y, e1, g⟩ := opt_ex g
    obtain ⟨b, e2, g⟩ := opt_ex g
    cases t1 with
    | exc h1 h2 h3 => exact ⟨_, y, b, rfl, cls_ok t2 e1, ec, fun d e => ⟨_, by cases e; exact P.nol h2 rfl⟩, e2, (k _ g).d P (.bl _)⟩
  · obtain ⟨v, u, rfl, t1, t2⟩ := tops_2 t
    obtain ⟨rfl, rfl, ec, g⟩ := g
    obtain ⟨y, e1, g⟩ := opt_ex g
    obtain ⟨b, e2, g⟩ := opt_ex g
    cases t1
    exact ⟨_, y, b, rfl, cls_ok t2 e1, ec, fun d e => (by cases e), e2, (k _ g).d P (.bl _)⟩
  · exact g.elim
end
end Q
/-! x = y.pop(), y.extend(..); what is known of an own error -/
namespace Q
open PySem L2 PySem.Spec PyProof.Rows NdefX
section
variable {X : Cx}
/-- y.extend(e): y the slot i's own list -/
def sExt (i : Nat) (f : Ex) : Sx := fun E K st => (∃ ys, st.ρ[i]? = some (.lst ys)) ∧ f E st fun r st1 => opt (frz st1 r) fun q => match q.1, q.2.ρ[i]? with
  | .lst ys, some (.lst xs) => xs.length + ys.length ≤ sizeLine ∧ K.nx { q.2 with ρ := q.2.ρ.set i (.lst (xs ++ ys)) }
  | _, _ => False
theorem pxs_ext {e : Expr} {i : Nat} {f : Ex} {s : Stmt} (h : ∀ {t : TA}, PA X [e] t → PS X s (tDrop (tBM X.K "list" rExtend (tVar i) t))) (he : PXA X [e] (xCons f xNil)) : PXS X s (sExt i f) := fun c l => psOf (h (he c l)) fun Ds σ H ⟨W, st, H1, K, hH, P, ek, ⟨ys, hy⟩, q⟩ => by
  subst hH
  obtain ⟨a, vs, e1, e2, e3⟩ := P.own_lst hy
  refine ⟨_, e1, .inl ⟨rfl, vs, SqL.of (P.nol e2 rfl)⟩, W, st, H1, fun rs st1 => ∃ r, rs = [r] ∧ opt (frz st1 r) fun q => match q.1, q.2.ρ[i]? with
    | .lst ys, some (.lst xs) => xs.length + ys.length ≤ sizeLine ∧ K.nx { q.2 with ρ := q.2.ρ.set i (.lst (xs ++ ys)) }
    | _, _ => False, rfl, P, ?_, ?_⟩
  · show f c.E st fun r st1 => ∃ r', [r] = [r'] ∧ _
    simp only [List.cons.injEq, and_true, exists_eq_left']
    exact q
  · rintro rs st1 us W1 H2 ⟨r, rfl, q1⟩ s1 P1 rvs
    obtain ⟨⟨y, st2⟩, e4, q1⟩ := opt_ex q1
    cases rvs with
    | cons rv t =>
      cases t
      obtain ⟨W2, s2, P2, r2, eL⟩ := frz_ok P1 e4 rv
      dsimp only at q1 P2 r2
      split at q1
      · rename_i _ _ zs xs hxs
        obtain ⟨a', vs', f1, f2, f3⟩ := P2.own_lst hxs
        rw [e1] at f1
        cases f1
        cases r2 with
        | lst h1 h2 h3 =>
          have so : slotOwns st2.ρ σ i a := ⟨_, hxs, rfl, e1⟩
          refine ⟨_, _, _, _, rfl, rfl, P1.nol f2 rfl, P1.nol h2 rfl, by rw [f3.length, h3.length]; exact q1.1, ?_⟩
          have nl : W1.L.lookup a = none := by rw [← eL]; exact P2.lown (P2.sown i a so).1 (P2.sown i a so).2.1
          rw [lock_upd nl, ← eL]
          refine ek.1 _ _ _ _ q1.2 (P2.mutate (o' := .lst (xs ++ zs)) hxs rfl e1 rfl fun fu => ⟨_, upd_same, (f3.append h3).fut fu⟩) ?_
          exact (P.aft (s1.trans s2)).trans ⟨fut_mut W2 (P2.sown i a so).1 f2 rfl, [], rfl⟩
      · exact q1.elim
end
/-- an own error: its class at C, its constructor at f, the constructor's code at c -/
structure ErrK (P : Program) (K : Frg) (mg : Str → Option Value) (x : Str) (C f : Addr) (fd : FuncData) (c : Addr) (B newId initId : String) (tl : List Value) (fl ps : List Str) : Prop where
  T : ExB K C B newId initId tl
  hi : PySem.W.findIn K (.ref C) "__init__" = some (some (.ref f))
  hf : PySem.W.isFn K (.ref f) = true
  hb : Binds K fd ps []
  hm : mg x = some (.ref C)
  S : SupX P K mg C c initId
  tk : ∀ f ∈ fl, PySem.W.takerIn K C f = some none
/-- an own error that is caught -/
structure CauK (K : Frg) (C : Addr) (fl : List Str) : Prop where
  xf : XfC K C
  xc : ExcC K C
  no : ∀ f ∈ fl, PySem.W.findIn K (.ref C) f = some none
end Q
/-! a list of anything == [] -/
namespace Q
open PySem L2 PySem.Spec PyProof.Rows NdefX
def rEqNil : V → V → Hp → VK → Prop := fun x y H Q => ∃ a b xs, x = .ref a ∧ y = .ref b ∧ H a = some (.lst xs) ∧ H b = some (.lst []) ∧ Q (.bl xs.isEmpty) H
theorem op_eqNil {X : Cx} (hu : X.A.units < cLine) : OpR X (compareOp .Eq) rEqNil := by
  rintro pins s σ H x y v u Q I rx ry ⟨a, b, xs, rfl, rfl, h1, h2, q⟩
  cases rx
  cases ry
  obtain ⟨_, us, _, ra, la⟩ := (show ObjOk X.prog X.w H s.heap a (.lst xs) from I.hok a _ h1)
  obtain ⟨_, ws, _, rb, lb⟩ := (show ObjOk X.prog X.w H s.heap b (.lst []) from I.hok b _ h2)
  have e2 : ws = [] := by cases rb; rfl
  subst e2
  have ia : s.heap.IsList a us.toArray := ⟨_, la, rfl, _, rfl⟩
  have ib : s.heap.IsList b ([] : List Value).toArray := ⟨_, lb, rfl, _, rfl⟩
  cases xs with
  | nil =>
    cases ra
    exact PySem.SeqAt.eq_listAt (e := fun _ => true) ia ib rfl hu (fun j h => absurd h (Nat.not_lt_zero _)) ⟨.bl true, H, I, rfl, q⟩
  | cons y ys =>
    cases ra
    exact PySem.SeqAt.eq_list_lengthsAt ia ib rfl hu ⟨.bl false, H, I, rfl, q⟩
def eqNil : D → D → Option O
  | .lst xs, .lst [] => some (.d (.bl xs.isEmpty))
  | _, _ => none
theorem g_eqNil : OpG rEqNil eqNil := fun c W st σ H v1 v2 d1 d2 o Q P t1 t2 e h => by
  unfold eqNil at e
  split at e
  · cases e
    cases t1 with
    | lst h1 r1 =>
      cases t2 with
      | lst h2 r2 =>
        cases r2
        refine ⟨_, _, _, rfl, rfl, P.nol h1 rfl, P.nol h2 rfl, ?_⟩
        cases r1 <;> exact h.d P (.bl _)
  · cases e
/-! a, b = x, y where a name is used in a comprehension -/
theorem FunS.binds {K : Frg} {x qual : Str} {st : Stmt} {f D cc c : Addr} {fd : FuncData} {ps : List Str} (F : FunS K x qual st f fd cc c D)
    (h : ∀ (kV doc pm ct : Value) (an : Option Addr) (us : List Value), us.length = ps.length → bindArgs (PySem.W.fnX x qual (defArgs st) (defBody st) (defScope st) [(("__class__" : Str), cc)] .none kV doc pm an (.ref c) ct) ⟨us, []⟩ = pure (ps.zip us)) : Binds K fd ps [] := by
  obtain ⟨oc, kV, doc, pm, ct, cl, od, an, cld, osl, csl, rfl, at_, cell⟩ := F.ex
  intro s us _ hl
  rw [List.append_nil] at hl ⊢
  exact .of_eq (h kV doc pm ct an us hl)
theorem all1 {α : Type} {p : α → Prop} {a : α} (h : p a) : ∀ x ∈ [a], p x := fun x hx => by rw [List.mem_singleton.mp hx]; exact h
end Q
/-! enumerate(a tuple) -/
/-! f(lambda: e): what the making of the lambda changes, told exactly -/
namespace Q
open PySem L2 PySem.Spec PyProof.Rows NdefX LamX
inductive Made (H : Hp) (P : Addr) (q : Str) : Hp → Prop
  | old : Made H P q H
  | new {c : Addr} {ps : Array Value} (pos : Pos) : H c = none → H P = some (.tbl ps) → Made H P q (upd (upd H P (.tbl (ps ++ #[rawInt pos.line, rawInt pos.col, .ref c]))) c (CodeO c q))
end Q
/-! f(lambda: e): the rule; a def that calls what it is handed and tells a field of a caught error -/
/-! def told(call): try: return call() / except C as e: return e.f -/
/-! f(lambda: e) over plain states -/
namespace Q
open PySem L2 PySem.Spec PyProof.Rows NdefX LamX
theorem Pre.tab_at {c : C0} {W : Wd} {st : Ps} {σ : L2.St} {H : Hp} (P : Pre c W st σ H) {n : Nat} {A : Addr} {q : Str} (e : st.S[n]? = some (.tbl A q)) : W.own A ∧ TblAt W.F H A q ∧ ∃ a, W.φ[n]? = some a ∧ W.owns[n]? = some [A] ∧ a.1 = A := by
  have hl := (List.getElem?_eq_some_iff.mp e).1
  have h1 : n < W.φ.length := by have := P.base.len; omega
  have h2 : n < W.owns.length := by have := P.base.len; omega
  have e1 : W.φ[n]? = some (W.φ[n]'h1) := List.getElem?_eq_getElem h1
  have e2 : W.owns[n]? = some (W.owns[n]'h2) := List.getElem?_eq_getElem h2
  obtain ⟨ew, ea, t⟩ := P.base.cell n _ _ _ e1 e e2
  rw [ew] at e2
  exact ⟨⟨_, List.mem_of_getElem? e2, List.mem_cons_self⟩, t, _, e1, e2, ea⟩
theorem Pre.tblset {c : C0} {W : Wd} {st : Ps} {σ : L2.St} {H : Hp} (P : Pre c W st σ H) (hrw : c.rw = true) {n : Nat} {A : Addr} {q : Str} {ps ps2 : Array Value} (e : st.S[n]? = some (.tbl A q)) (eA : H A = some (.tbl ps)) (ht : TblAt W.F (upd H A (.tbl ps2)) A q) :
    Step c.rw W H W (upd H A (.tbl ps2)) ∧ Pre c W st σ (upd H A (.tbl ps2)) := by
  obtain ⟨oA, _, a, e1, e2, ea⟩ := P.tab_at e
  have hF : ¬ W.F A := P.base.ownF hrw A oA
  have ft : Fut W.φ W.F H W.φ W.F (upd H A (.tbl ps2)) := fut_mut W hF eA rfl
  have s1 : Step c.rw W H W (upd H A (.tbl ps2)) := ⟨fun _ _ e => e, fun _ h => h, fun b o h no => by rw [upd_ne (fun z => no hrw (by rw [z]; exact oA))]; exact h, ft.tups, fun b h => upd_dom h, fun b h => .inl h, ⟨[], rfl⟩, fun b h => .inl h⟩
  refine ⟨s1, P.call (S' := st.S) s1 (fun a h => .inl h) ⟨fun b h => ?_, P.base.len, fun m y cl w g1 g2 g3 => ?_, P.base.apart, P.base.ownF, P.base.lN, fun b o h => ?_⟩⟩
  · obtain ⟨o, h1⟩ := P.base.fdom b h
    exact ⟨o, ft.keep b o h h1⟩
  · by_cases mn : m = n
    · subst mn
      rw [e1] at g1
      rw [e] at g2
      rw [e2] at g3
      cases g1
      cases g2
      cases g3
      exact ⟨rfl, ea, ht⟩
    · refine (P.base.cell m y cl w g1 g2 g3).fut ft fun x hx => upd_ne fun z => mn (P.base.apart m n w _ x g3 e2 hx (by rw [z]; exact List.mem_cons_self))
  · obtain ⟨k1, u, k2, k3⟩ := P.base.lF b o h
    refine ⟨k1, u, ?_, k3⟩
    rw [upd_ne fun z => by rw [z, eA] at k2; cases k2; cases k3]
    exact k2
theorem lock_up {L : List (Addr × Obj)} {H : Hp} {a : Addr} {o : HO} (h : L.lookup a = none) : lockH L (upd H a o) = upd (lockH L H) a o := by
  funext b
  by_cases e : b = a
  · subst e
    rw [upd_same, lock_at h, upd_same]
  · rw [upd_ne e]
    unfold lockH
    rw [upd_ne e]
theorem Pre.made {c : C0} {W : Wd} {st : Ps} {σ : L2.St} {H Hn : Hp} (P : Pre c W st σ H) (hrw : c.rw = true) {n : Nat} {A : Addr} {q : Str} (e : st.S[n]? = some (.tbl A q)) (m : Made (lockH W.L H) A q Hn) :
    ∃ W' H', Hn = lockH W'.L H' ∧ Step c.rw W H W' H' ∧ Pre c W' st σ H' := by
  cases m with
  | old => exact ⟨W, H, rfl, .refl _ _ _, P⟩
  | new pos hc hA =>
    rename_i c' ps
    obtain ⟨oA, ⟨ps', h1, h2, h3⟩, _⟩ := P.tab_at e
    have lA : W.L.lookup A = none := P.base.nol h1 rfl
    rw [lock_at lA, h1] at hA
    cases hA
    obtain ⟨n1, n2⟩ := lnone_of P hc
    have ne : A ≠ c' := ne_of_none h1 n1
    obtain ⟨s1, P1, f1, f2, f3, f4, f5⟩ := P.fresh (o := CodeO c' q) n1
    obtain ⟨s2, P2⟩ := P1.freeze0 f2 f3 f4 f5 ⟨_, upd_same⟩
    have h1' : upd H c' (CodeO c' q) A = some (.tbl ps) := (upd_ne ne).trans h1
    obtain ⟨s3, P3⟩ := P2.tblset hrw (ps2 := ps ++ #[rawInt pos.line, rawInt pos.col, .ref c']) e h1' ⟨_, upd_same, by rw [Array.toList_append]; exact PySem.TriplesOk_snoc _ _ _ _ h2, fun p cv hcv => by
      rw [Array.toList_append] at hcv
      rcases among_app _ h2 hcv with z | z
      · obtain ⟨c0, e1, e2, e3⟩ := h3 p cv z
        refine ⟨c0, e1, .inl e2, ?_⟩
        rw [upd_ne fun y => codeO_ne ps (Option.some.inj (e3.symm.trans (by rw [y]; exact h1))), upd_ne (ne_of_none e3 n1)]
        exact e3
      · exact ⟨c', z, .inr rfl, (upd_ne (Ne.symm ne)).trans upd_same⟩⟩
    refine ⟨_, _, ?_, (s1.trans s2).trans s3, P3⟩
    show _ = lockH W.L _
    rw [lock_up lA, lock_up n2]
    funext b
    by_cases b1 : b = c'
    · subst b1
      rw [upd_same, upd_ne (Ne.symm ne), upd_same]
    · rw [upd_ne b1]
      by_cases b2 : b = A
      · subst b2
        rw [upd_same, upd_same]
      · rw [upd_ne b2, upd_ne b2, upd_ne b1]
end Q
/-! told(lambda: e) over plain states -/
/-! defs that make lambdas: their code object is known -/
/-! the walk of a law that makes lambdas -/
namespace Q
open PySem PySem.Spec PyProof.Rows L2 LamX
section
variable {P : Program} {w : World} {K : PySem.W.Frag} {mg mb : Str → Option Value} {s : Shared} {a A ca : Addr} {us : List Value} {ns : List Int}
abbrev scrO (us : List Value) : Obj := { cls := .type "list", data := .seq us.toArray }
abbrev tabO0 : Obj := { cls := .none, data := .fields #[] }
structure ScrT (P : Program) (w : World) (K : PySem.W.Frag) (s : Shared) (a A : Addr) (us : List Value) (H : Hp) : Prop where
  only : ∀ b u, H b = some u → (b = a ∧ ∃ xs, u = .frz (scrO us) (.lst xs)) ∨ (b = A ∧ u = .tbl #[])
  own : ∀ b, H b ≠ none → K.lookup b = none
  ok : HOk P w H s.heap
theorem ScrT.other {H : Hp} (S : ScrT P w K s a A us H) (ha : s.heap.get? a = some (scrO us)) (hA : s.heap.get? A = some tabO0) {b : Addr} {o : Obj} (hb : s.heap.get? b = some o) (h1 : o ≠ scrO us) (h2 : o ≠ tabO0) : (hidT s.heap H).get? b = some o := by
  refine hidT_get hb ?_
  rcases z : H b with _ | u
  · rfl
  · rcases S.only b u z with ⟨rfl, _⟩ | ⟨rfl, _⟩
    · exact absurd (Option.some.inj (hb.symm.trans ha)) h1
    · exact absurd (Option.some.inj (hb.symm.trans hA)) h2
theorem ScrT.nsp {H : Hp} (S : ScrT P w K s a A us H) (ha : s.heap.get? a = some (scrO us)) (hA : s.heap.get? A = some tabO0) {b : Addr} {m : Str → Option Value} (h : s.heap.Ns b m) : (hidT s.heap H).Ns b m := by
  obtain ⟨o, es, ep, e, d, r⟩ := h
  refine ⟨o, es, ep, S.other ha hA e (fun z => ?_) (fun z => ?_), d, r⟩
  · rw [z] at d
    cases d
  · rw [z] at d
    cases d
theorem ScrT.kin {H : Hp} (S : ScrT P w K s a A us H) (KX : K.In s.heap) : K.In (hidT s.heap H) := fun b o e => by
  refine hidT_get (KX b o e) ?_
  rcases z : H b with _ | u
  · rfl
  · rw [S.own b (by rw [z]; exact fun q => by cases q)] at e
    cases e
end
end Q
/-! == of dicts whose values are data; != of what may be an instance or a text -/
/-! != of two results; a, b = a list -/
/-! two keywords in the other order -/
namespace Q
open PySem L2 PySem.Spec PyProof.Rows NdefX
theorem vals_rev {vs : List V} {us : List Value} (h : Vals vs us) : Vals vs.reverse us.reverse := by
  have app : ∀ {vs : List V} {us : List Value} {ws : List V} {zs : List Value}, Vals vs us → Vals ws zs → Vals (vs ++ ws) (us ++ zs) := fun {vs us ws zs} h g => by
    induction h with
    | nil => exact g
    | cons a t ih => exact .cons a ih
  induction h with
  | nil => exact .nil
  | cons a t ih =>
    rw [List.reverse_cons, List.reverse_cons]
    exact app ih (.cons a .nil)
end Q
/-! == of two lists of own instances, with any answer -/
/-! == of two lists of own instances, over plain states -/
namespace Q
open PySem L2 PySem.Spec PyProof.Rows NdefX
mutual
/-- data that a value determines -/
def pureD : D → Bool
  | .non | .bl _ | .int _ | .str _ | .byt _ | .ty _ => true
  | .lst xs => pureL xs
  | .tup xs => pureL xs
  | .dK kvs => pureK kvs
  | .dT kvs => pureT kvs
  | .ins _ fs => pureF fs
  | _ => false
def pureL : List D → Bool
  | [] => true
  | d :: ds => pureD d && pureL ds
def pureK : List (Key × D) → Bool
  | [] => true
  | (_, d) :: ds => pureD d && pureK ds
def pureT : List (List Key × D) → Bool
  | [] => true
  | (_, d) :: ds => pureD d && pureT ds
def pureF : List (Str × D) → Bool
  | [] => true
  | (_, d) :: ds => pureD d && pureF ds
end
section
variable {φ : List (Addr × Addr)} {F : Addr → Prop} {H : Hp}
mutual
theorem Rep.one : ∀ {d e : D} {v : V}, pureD d = true → pureD e = true → Rep φ F H v d → Rep φ F H v e → d = e
  | .non, e, _, p, q, h, g => by cases h; cases g; rfl
  | .bl b, e, _, p, q, h, g => by cases h; cases g; rfl
  | .int i, e, _, p, q, h, g => by cases h; cases g; rfl
  | .str i, e, _, p, q, h, g => by cases h; cases g; rfl
  | .byt i, e, _, p, q, h, g => by cases h; cases g; rfl
  | .ty i, e, _, p, q, h, g => by cases h; cases g; rfl
  | .lst ds, e, _, p, q, h, g => by
    cases h with
    | lst h1 h2 h3 =>
      cases g with
      | lst g1 g2 g3 =>
        rw [h2] at g2
        cases g2
        rw [RepL.one (by simpa only [pureD] using p) (by simpa only [pureD] using q) h3 g3]
      | tup g2 g3 => rw [h2] at g2; cases g2
      | dK g1 g2 g3 => rw [h2] at g2; cases g2
      | dT g1 g2 g3 => rw [h2] at g2; cases g2
      | ins g1 g2 g3 => rw [h2] at g2; cases g2
      | _ => simp [pureD] at q
  | .tup ds, e, _, p, q, h, g => by
    cases h with
    | tup h2 h3 =>
      cases g with
      | tup g2 g3 =>
        rw [h2] at g2
        cases g2
        rw [RepL.one (by simpa only [pureD] using p) (by simpa only [pureD] using q) h3 g3]
      | lst g1 g2 g3 => rw [h2] at g2; cases g2
      | dK g1 g2 g3 => rw [h2] at g2; cases g2
      | dT g1 g2 g3 => rw [h2] at g2; cases g2
      | ins g1 g2 g3 => rw [h2] at g2; cases g2
      | _ => simp [pureD] at q
  | .dK ds, e, _, p, q, h, g => by
    cases h with
    | dK h1 h2 h3 =>
      cases g with
      | dK g1 g2 g3 =>
        rw [h2] at g2
        cases g2
        rw [RepK.one (by simpa only [pureD] using p) (by simpa only [pureD] using q) h3 g3]
      | lst g1 g2 g3 => rw [h2] at g2; cases g2
      | tup g2 g3 => rw [h2] at g2; cases g2
      | dT g1 g2 g3 => rw [h2] at g2; cases g2
      | ins g1 g2 g3 => rw [h2] at g2; cases g2
      | _ => simp [pureD] at q
  | .dT ds, e, _, p, q, h, g => by
    cases h with
    | dT h1 h2 h3 =>
      cases g with
      | dT g1 g2 g3 =>
        rw [h2] at g2
        cases g2
        rw [RepT.one (by simpa only [pureD] using p) (by simpa only [pureD] using q) h3 g3]
      | lst g1 g2 g3 => rw [h2] at g2; cases g2
      | tup g2 g3 => rw [h2] at g2; cases g2
      | dK g1 g2 g3 => rw [h2] at g2; cases g2
      | ins g1 g2 g3 => rw [h2] at g2; cases g2
      | _ => simp [pureD] at q
  | .ins C ds, e, _, p, q, h, g => by
    cases h with
    | ins h1 h2 h3 =>
      cases g with
      | ins g1 g2 g3 =>
        rw [h2] at g2
        cases g2
        rw [RepF.one (by simpa only [pureD] using p) (by simpa only [pureD] using q) h3 g3]
      | lst g1 g2 g3 => rw [h2] at g2; cases g2
      | tup g2 g3 => rw [h2] at g2; cases g2
      | dK g1 g2 g3 => rw [h2] at g2; cases g2
      | dT g1 g2 g3 => rw [h2] at g2; cases g2
      | _ => simp [pureD] at q
  | .cls _, _, _, p, _, _, _ => by simp [pureD] at p
  | .cell _, _, _, p, _, _, _ => by simp [pureD] at p
  | .rows _, _, _, p, _, _, _ => by simp [pureD] at p
  | .scr _, _, _, p, _, _, _ => by simp [pureD] at p
  | .exc _ _ _ _, _, _, p, _, _, _ => by simp [pureD] at p
theorem RepL.one : ∀ {ds es : List D} {vs : List V}, pureL ds = true → pureL es = true → RepL φ F H vs ds → RepL φ F H vs es → ds = es
  | [], _, _, _, _, h, g => by cases h; cases g; rfl
  | d :: ds, _, _, p, q, h, g => by
    cases h with
    | cons h1 h2 =>
      cases g with
      | cons g1 g2 =>
        simp only [pureL, Bool.and_eq_true] at p q
        rw [Rep.one p.1 q.1 h1 g1, RepL.one p.2 q.2 h2 g2]
theorem RepK.one : ∀ {ds es : List (Key × D)} {vs : List (Key × V)}, pureK ds = true → pureK es = true → RepK φ F H vs ds → RepK φ F H vs es → ds = es
  | [], _, _, _, _, h, g => by cases h; cases g; rfl
  | (k, d) :: ds, _, _, p, q, h, g => by
    cases h with
    | cons h1 h2 =>
      cases g with
      | cons g1 g2 =>
        simp only [pureK, Bool.and_eq_true] at p q
        rw [Rep.one p.1 q.1 h1 g1, RepK.one p.2 q.2 h2 g2]
theorem RepT.one : ∀ {ds es : List (List Key × D)} {vs : List (List Key × V)}, pureT ds = true → pureT es = true → RepT φ F H vs ds → RepT φ F H vs es → ds = es
  | [], _, _, _, _, h, g => by cases h; cases g; rfl
  | (k, d) :: ds, _, _, p, q, h, g => by
    cases h with
    | cons h1 h2 =>
      cases g with
      | cons g1 g2 =>
        simp only [pureT, Bool.and_eq_true] at p q
        rw [Rep.one p.1 q.1 h1 g1, RepT.one p.2 q.2 h2 g2]
theorem RepF.one : ∀ {ds es : List (Str × D)} {vs : List (Str × V)}, pureF ds = true → pureF es = true → RepF φ F H vs ds → RepF φ F H vs es → ds = es
  | [], _, _, _, _, h, g => by cases h; cases g; rfl
  | (k, d) :: ds, _, _, p, q, h, g => by
    cases h with
    | cons h1 h2 =>
      cases g with
      | cons g1 g2 =>
        simp only [pureF, Bool.and_eq_true] at p q
        rw [Rep.one p.1 q.1 h1 g1, RepF.one p.2 q.2 h2 g2]
end
end
end Q
/-! len(set(texts)) for any texts -/
/-! set(list of texts); len(set(..)) -/
namespace SSX
open PySem PySem.Spec PyProof.Rows
open SS (strs_at)
abbrev bare (led : Bool) : Obj := { cls := .type "set", dict := none, data := .set #[] 0 (.fresh 0 0 led) }
end SSX
/-! len of an own object, o[k] that may raise, own == with a list, len(set(texts)), powers: over plain states -/
namespace Q
open PySem L2 PySem.Spec PyProof.Rows NdefX
section
variable {X : Cx} {C : Addr} {z : Nat × MF}
def powG : D → D → Option O
  | .int i, .int j => if (decide (0 ≤ j) && decide (j ≤ 1000) && decide (i.natAbs < 1000)) = true then some (.d (.int (i ^ j.toNat))) else none
  | _, _ => none
theorem g_pow : OpG (rI CPow fun i j => .int (i ^ j.toNat)) powG := fun c W st σ H v1 v2 d1 d2 o Q P t1 t2 e h => by
  unfold powG at e
  split at e
  · split at e
    · rename_i hc
      simp only [Bool.and_eq_true, decide_eq_true_eq] at hc
      cases e
      cases t1
      cases t2
      exact ⟨_, _, rfl, rfl, ⟨hc.1.1, by omega, by omega⟩, h.d P (.int _)⟩
    · cases e
  · cases e
end
end Q
/-! repr of lists and tuples that may hold dicts with text keys -/
namespace Q
open PySem L2 PySem.Spec PyProof.Rows NdefX
mutual
inductive DR (H : Hp) : V → PyData → Prop
  | non : DR H .non .none
  | bl (b : Bool) : DR H (.bl b) (.bool b)
  | int (i : Int) : DR H (.int i) (.int i)
  | str (x : Str) : DR H (.str x) (.str x)
  | lst {a : Addr} {xs : List V} {ps : List PyData} : H a = some (.lst xs) → DRs H xs ps → DR H (.ref a) (.list ps)
  | tup {a : Addr} {xs : List V} {ps : List PyData} : H a = some (.tup xs) → DRs H xs ps → DR H (.ref a) (.tuple ps)
  | dK {a : Addr} {xs : List (Key × V)} {ps : List (PyData × PyData)} : Rd H a (.dK xs) → DRk H xs ps → DR H (.ref a) (.dict ps)
inductive DRs (H : Hp) : List V → List PyData → Prop
  | nil : DRs H [] []
  | cons {v : V} {p : PyData} {vs : List V} {ps : List PyData} : DR H v p → DRs H vs ps → DRs H (v :: vs) (p :: ps)
inductive DRk (H : Hp) : List (Key × V) → List (PyData × PyData) → Prop
  | nil : DRk H [] []
  | cons {k : Key} {v : V} {p : PyData} {vs : List (Key × V)} {ps : List (PyData × PyData)} : DR H v p → DRk H vs ps → DRk H ((k, v) :: vs) ((kP k, p) :: ps)
end
section
variable {X : Cx} {pins : List (Addr × Obj)} {σ : L2.St} {H : Hp} {s : Shared}
theorem key_reads {k : Key} {u : Value} (h : keyIs k u = true) : Reads s.heap u (kP k) [] := by
  rcases keyIs_shape h with ⟨i, t, rfl, rfl⟩ | ⟨x, t, rfl, rfl⟩
  · exact .int i t
  · exact .str x t
mutual
theorem DR.reads (I : L2.Inv X pins σ H s) (hb : H sysModules = none) : ∀ {p : PyData} {v : V} {u : Value}, DR H v p → RelV v u → ∃ as, Reads s.heap u p as ∧ sysModules ∉ as
  | .none, _, _, h, r => by cases h; cases r; exact ⟨_, .none, List.not_mem_nil⟩
  | .bool b, _, _, h, r => by cases h; cases r; exact ⟨_, .bool b, List.not_mem_nil⟩
  | .int i, _, _, h, r => by cases h; obtain ⟨t, rfl⟩ := r; exact ⟨_, .int i t, List.not_mem_nil⟩
  | .str x, _, _, h, r => by cases h; obtain ⟨t, rfl⟩ := r; exact ⟨_, .str x t, List.not_mem_nil⟩
  | .list ps, _, _, h, r => by
    cases h with
    | lst h1 h2 =>
      cases r
      rename_i a xs
      obtain ⟨its, rv, ⟨o, n, ho, hc, _, hd⟩, _⟩ := I.list (SqL.of (K := X.K) h1)
      obtain ⟨as, q, no⟩ := DRs.reads I hb h2 rv
      refine ⟨a :: as, .list ho hc hd (by rw [show its.toArray.toList = its by simp]; exact q), fun z => ?_⟩
      rcases List.mem_cons.mp z with z | z
      · rw [← z, hb] at h1
        cases h1
      · exact no z
  | .tuple ps, _, _, h, r => by
    cases h with
    | tup h1 h2 =>
      cases r
      obtain ⟨its, rv, ⟨o, ho, hc, n, hd⟩, _⟩ := I.tuple (SqT.of (K := X.K) h1)
      obtain ⟨as, q, no⟩ := DRs.reads I hb h2 rv
      exact ⟨as, .tuple ho hc hd (by rw [show its.toArray.toList = its by simp]; exact q), no⟩
  | .dict ps, _, _, h, r => by
    cases h with
    | dK h1 h2 =>
      cases r
      rename_i a xs
      obtain ⟨_, hd, vs, rel, o, es, ep, ho, hx, hdat, _, pr, _⟩ := (show ObjOk X.prog X.w H s.heap a (.dK xs) from h1.ok I.hok)
      obtain ⟨bs, q1, q2, no⟩ := DRk.reads I hb h2 rel pr
      refine ⟨a :: [] ++ bs, .dict ho hx.1 hdat q1 q2, fun z => ?_⟩
      rcases List.mem_cons.mp z with z | z
      · rw [z] at hd
        exact absurd hd (by simp)
      · exact no z
theorem DRs.reads (I : L2.Inv X pins σ H s) (hb : H sysModules = none) : ∀ {ps : List PyData} {vs : List V} {us : List Value}, DRs H vs ps → Vals vs us → ∃ as, ReadsAll s.heap us ps as ∧ sysModules ∉ as
  | [], _, _, h, r => by cases h; cases r; exact ⟨_, .nil, List.not_mem_nil⟩
  | p :: ps, _, _, h, r => by
    cases h with
    | cons h1 h2 =>
      cases r with
      | cons r1 r2 =>
        obtain ⟨as, q1, n1⟩ := DR.reads I hb h1 r1
        obtain ⟨bs, q2, n2⟩ := DRs.reads I hb h2 r2
        exact ⟨_, .cons q1 q2, fun z => (List.mem_append.mp z).elim n1 n2⟩
theorem DRk.reads (I : L2.Inv X pins σ H s) (hb : H sysModules = none) : ∀ {ps : List (PyData × PyData)} {kvs : List (Key × V)} {vs : List (Key × Value)} {es : List DictEntry}, DRk H kvs ps → KV kvs vs → Pairs (mixKind X.prog X.w) es vs → ∃ bs, ReadsAll s.heap (es.map (·.key)) (ps.map (·.1)) [] ∧ ReadsAll s.heap (es.map (·.val)) (ps.map (·.2)) bs ∧ sysModules ∉ bs
  | [], _, _, _, h, r, pr => by cases h; cases r; cases pr; exact ⟨_, .nil, .nil, List.not_mem_nil⟩
  | p :: ps, _, _, _, h, r, pr => by
    cases h with
    | cons h1 h2 =>
      cases r with
      | cons r1 r2 =>
        cases pr with
        | cons e1 e2 e3 =>
          obtain ⟨as, q1, n1⟩ := DR.reads I hb h1 (r1.2)
          obtain ⟨bs, q2, q3, n2⟩ := DRk.reads I hb h2 r2 e3
          have ek : Reads s.heap _ (kP _) [] := key_reads (s := s) e1
          rw [← r1.1] at ek
          refine ⟨_, ReadsAll.cons (as := []) (bs := []) ek q2, .cons ?_ q3, fun z => (List.mem_append.mp z).elim n1 n2⟩
          dsimp only
          rw [e2]
          exact q1
end
def rReprR : List V → Hp → VK → Prop := fun xs H Q => ∃ (a : Addr) (p : PyData), xs = [.ref a] ∧ DR H (.ref a) p ∧ p.showable = true ∧ p.depth ≤ 60 ∧ p.shown.length ≤ sizeLine ∧ Q (.str p.shown) H
theorem call_reprR (hg : X.A.guards = some []) (hu : X.A.units + 64 < cLine) (hb : ∃ o, X.base.get? sysModules = some o) : CallR X (.builtin "repr") rReprR := by
  intro pins s σ H xs us Q I r h
  obtain ⟨a, p, rfl, hd, h1, h3, h4, q⟩ := h
  obtain rfl := Vals.ref1 r
  obtain ⟨o, ho⟩ := hb
  obtain ⟨as, R, no⟩ := hd.reads I (I.bs _ o ho).2 (u := .ref a) rfl
  exact repr_of_reads' R h1 (fun _ => no) hg (by omega) (fun b o e => e) (fun h' u tk hk => ⟨.str _, H, I.kept hk, ⟨u, rfl⟩, q⟩) h4
end
mutual
def toR : D → Option PyData
  | .non => some .none
  | .bl b => some (.bool b)
  | .int i => some (.int i)
  | .str s => some (.str s)
  | .lst xs => (toRs xs).map .list
  | .tup xs => (toRs xs).map .tuple
  | .dK kvs => (toRk kvs).map .dict
  | _ => none
def toRs : List D → Option (List PyData)
  | [] => some []
  | x :: xs => (toR x).bind fun p => (toRs xs).map fun ps => p :: ps
def toRk : List (Key × D) → Option (List (PyData × PyData))
  | [] => some []
  | (k, x) :: xs => (toR x).bind fun p => (toRk xs).map fun ps => (kP k, p) :: ps
end
section
variable {c : C0} {W : Wd} {st : Ps} {σ : L2.St} {H : Hp}
mutual
theorem Pre.dr (P : Pre c W st σ H) : ∀ {d : D} {v : V} {p : PyData}, Rp W H v d → toR d = some p → DR (lockH W.L H) v p
  | .non, _, _, h, e => by cases h; rw [toR] at e; cases e; exact .non
  | .bl b, _, _, h, e => by cases h; rw [toR] at e; cases e; exact .bl b
  | .int b, _, _, h, e => by cases h; rw [toR] at e; cases e; exact .int b
  | .str b, _, _, h, e => by cases h; rw [toR] at e; cases e; exact .str b
  | .lst xs, _, _, h, e => by
    rw [toR] at e
    obtain ⟨ps, e1, rfl⟩ := Option.map_eq_some_iff.mp e
    cases h with
    | lst h1 h2 h3 => exact .lst (P.nol h2 rfl) (P.drs h3 e1)
  | .tup xs, _, _, h, e => by
    rw [toR] at e
    obtain ⟨ps, e1, rfl⟩ := Option.map_eq_some_iff.mp e
    cases h with
    | tup h2 h3 => exact .tup (P.nol h2 rfl) (P.drs h3 e1)
  | .dK xs, _, _, h, e => by
    rw [toR] at e
    obtain ⟨ps, e1, rfl⟩ := Option.map_eq_some_iff.mp e
    cases h with
    | dK h1 h2 h3 => exact .dK (lock_rd h2) (P.drk h3 e1)
  | .byt _, _, _, _, e => by rw [toR] at e <;> first | cases e | (intros; contradiction)
  | .ty _, _, _, _, e => by rw [toR] at e <;> first | cases e | (intros; contradiction)
  | .dT _, _, _, _, e => by rw [toR] at e <;> first | cases e | (intros; contradiction)
  | .ins _ _, _, _, _, e => by rw [toR] at e <;> first | cases e | (intros; contradiction)
  | .cell _, _, _, _, e => by rw [toR] at e <;> first | cases e | (intros; contradiction)
  | .cls _, _, _, _, e => by rw [toR] at e <;> first | cases e | (intros; contradiction)
  | .exc _ _ _ _, _, _, _, e => by rw [toR] at e <;> first | cases e | (intros; contradiction)
  | .scr _, _, _, _, e => by rw [toR] at e <;> first | cases e | (intros; contradiction)
  | .rows _, _, _, _, e => by rw [toR] at e <;> first | cases e | (intros; contradiction)
theorem Pre.drs (P : Pre c W st σ H) : ∀ {ds : List D} {vs : List V} {ps : List PyData}, RepL W.φ W.F H vs ds → toRs ds = some ps → DRs (lockH W.L H) vs ps
  | [], _, _, h, e => by cases h; rw [toRs] at e; cases e; exact .nil
  | d :: ds, _, _, h, e => by
    rw [toRs] at e
    obtain ⟨p, e1, e⟩ := Option.bind_eq_some_iff.mp e
    obtain ⟨ps, e2, rfl⟩ := Option.map_eq_some_iff.mp e
    cases h with
    | cons h1 h2 => exact .cons (P.dr h1 e1) (P.drs h2 e2)
theorem Pre.drk (P : Pre c W st σ H) : ∀ {ds : List (Key × D)} {vs : List (Key × V)} {ps : List (PyData × PyData)}, RepK W.φ W.F H vs ds → toRk ds = some ps → DRk (lockH W.L H) vs ps
  | [], _, _, h, e => by cases h; rw [toRk] at e; cases e; exact .nil
  | (k, d) :: ds, _, _, h, e => by
    rw [toRk] at e
    obtain ⟨p, e1, e⟩ := Option.bind_eq_some_iff.mp e
    obtain ⟨ps, e2, rfl⟩ := Option.map_eq_some_iff.mp e
    cases h with
    | cons h1 h2 => exact .cons (P.dr h1 e1) (P.drk h2 e2)
end
end
def reprR : Gc := fun ds J => match ds with
  | [.lst xs] => opt (toR (.lst xs)) fun p => showsQ p J
  | [.tup xs] => opt (toR (.tup xs)) fun p => showsQ p J
  | _ => False
theorem g_reprR : CallG rReprR reprR := fun c W st σ H vs ds Q J P t g k => by
  unfold reprR at g
  split at g
  · obtain ⟨v, rfl, t1⟩ := tops_1 t
    obtain ⟨p, e, h1, h2, h3, h4⟩ := opt_ex g
    rw [toR] at e
    obtain ⟨ps, e1, rfl⟩ := Option.map_eq_some_iff.mp e
    cases t1 with
    | lst l1 l2 => exact ⟨_, _, rfl, .lst (P.nol l1 rfl) (P.drs l2 e1), h1, h2, h3, (k _ h4).d P (.str _)⟩
  · obtain ⟨v, rfl, t1⟩ := tops_1 t
    obtain ⟨p, e, h1, h2, h3, h4⟩ := opt_ex g
    rw [toR] at e
    obtain ⟨ps, e1, rfl⟩ := Option.map_eq_some_iff.mp e
    cases t1 with
    | tup l1 l2 => exact ⟨_, _, rfl, .tup (P.nol l1 rfl) (P.drs l2 e1), h1, h2, h3, (k _ h4).d P (.str _)⟩
  · exact g.elim
end Q
/-! list(d.values()); repr of None; a class called with no arguments -/
namespace Q
open PySem L2 PySem.Spec PyProof.Rows NdefX
section
variable {X : Cx}
theorem call_or {f : Value} {r1 r2 : List V → Hp → VK → Prop} (h1 : CallR X f r1) (h2 : CallR X f r2) : CallR X f (fun xs H Q => r1 xs H Q ∨ r2 xs H Q) := fun pins s σ H xs us Q I r h => h.elim (h1 pins s σ H xs us Q I r) (h2 pins s σ H xs us Q I r)
end
end Q
/-! sorted(set(list of ints)) -/
namespace SSX
open PySem PySem.Spec PyProof.Rows L2
section
variable {prog : Program} {w : World} {A : Around} {E : Value → Shared → Prop} {s : Shared}
abbrev ledW (w : World) : Bool := !w.params.followText "set-order"
/-- what the set of ints is, where it is made -/
def MadeI (w : World) (s : Shared) (ns : List Int) (h2 : Heap) : Prop := (∃ c, c ≤ ns.length ∧ SetR w h2 s.heap.objs.size (fun j => decide (j ∈ ns)) c) ∧ ∀ b o, s.heap.get? b = some o → h2.get? b = some o
theorem filledI {l : Addr} {us : Array Value} {ns : List Int} (hh : A.handled = none) (hl : s.heap.IsList l us) (hx : IntsAre us.toList ns) (hsm : ns.length < 4000) {Rz : Result → Shared → Prop}
    (h : ∀ h2 tk, MadeI w s ns h2 → Rz (.ok (.ret .none)) { s with heap := h2, toks := tk }) :
    codeAny (model prog w) A (.builtin "set.update.loop" ⟨[.ref s.heap.objs.size, .ref (s.heap.push (bare (ledW w))).objs.size], []⟩) Rz { s with heap := (s.heap.push (bare (ledW w))).push { cls := .type "list_iterator", data := .fields #[.ref l, .int 0 0] } } := by
  have ll : l < s.heap.objs.size := by
    obtain ⟨o, ho, _⟩ := hl
    exact Heap.lt_size ho
  have l1 : (s.heap.push (bare (ledW w))).IsList l us := hl.push _
  have sz : us.size = ns.length := by rw [← IntsAre.length hx, Array.length_toList]
  have ap : l ≠ (s.heap.push (bare (ledW w))).objs.size := by rw [Heap.size_push]; exact Nat.ne_of_lt (Nat.lt_succ_of_lt ll)
  refine set_update_ints (Walks.list (A := A.in1) (by simp [hh]) _ l ap us).toS s.heap.objs.size ?_ ns sz (by unfold scanBound; omega) (fun i v hv => ?_) (us.size - 0) 0 _ rfl (Nat.zero_le _) ⟨⟨_, Heap.get?_push_size _ rfl, rfl, rfl⟩, l1.push _⟩ ?_ fun s2 c hm hc hS => ?_
  · intro z
    rcases List.mem_cons.mp z with z | z
    · rw [Heap.size_push] at z
      exact Nat.ne_of_lt (Nat.lt_succ_self _) z
    · exact Nat.ne_of_gt ll (List.mem_singleton.mp z)
  · have hi : i < ns.length := by
      have hv' : us[i]? = some v := hv
      have := (Array.getElem?_eq_some_iff.mp hv').1
      omega
    obtain ⟨t, e⟩ := IntsAre.int_at hx i v (by rw [Array.getElem?_toList]; exact hv)
    refine ⟨ns[i], t, List.getElem?_eq_getElem hi, ?_⟩
    rw [e, List.getD_eq_getElem?_getD, List.getElem?_eq_getElem hi]
    rfl
  · have at0 : ((s.heap.push (bare (ledW w))).push { cls := .type "list_iterator", data := .fields #[.ref l, .int 0 0] }).get? s.heap.objs.size = some (bare (ledW w)) := Heap.get?_push_of_some _ (Heap.get?_push_size _ rfl)
    exact ⟨0, Nat.le_refl 0, setR_new_at at0⟩
  · obtain ⟨h2, g2, d2, tk2, os2⟩ := s2
    have eg : g2 = s.gens := hm.gens
    have ed : d2 = s.drawn := hm.drawn
    have eo : os2 = s.os := hm.os
    subst eg ed eo
    refine h h2 tk2 ⟨⟨c, by omega, hS⟩, fun b o e => hm.heap b o ?_ (Heap.get?_push_of_some _ (Heap.get?_push_of_some _ e))⟩
    have hb := Heap.lt_size e
    intro z
    rcases List.mem_cons.mp z with z | z
    · exact Nat.ne_of_lt hb z
    rcases List.mem_cons.mp z with z | z
    · rw [Heap.size_push] at z
      exact Nat.ne_of_lt (Nat.lt_succ_of_lt hb) z
    · cases z
theorem newInts {l : Addr} {us : Array Value} {ns : List Int} {Q : Value → Shared → Prop} (hh : A.handled = none) (hl : s.heap.IsList l us) (hx : IntsAre us.toList ns) (hsm : ns.length < 4000)
    (h : ∀ h2 tk, MadeI w s ns h2 → Q (.ref s.heap.objs.size) { s with heap := h2, toks := tk }) : wpAny (model prog w) A (call (.type "set") [.ref l]) Q E s := by
  obtain ⟨c, tl, mro⟩ := PySem.F.called_set.mro
  have o1 := PySem.F.called_set.made
  have o2 := PySem.F.called_set.sub
  have o3 := PySem.F.called_set.notType
  have o4 := PySem.F.called_set.canCreate
  have o5 := PySem.F.typeCall_set_1 (.ref l)
  refine wpAny_call (codeAny_of_tree ?_)
  show wpAny _ _ (callAny (.type "set") _) _ _ _
  refine wpAny_pure ⟨Code.quiet_builtin _ (by decide +kernel), codeAny_builtin PySem.F.entry_type_call ?_⟩
  rw [Around.under_plain (weight_type_call_type "set" [.ref l] []) rfl]
  repeat (any_goals (first | assumption | wp_step))
  refine codeAny_mono (code_set_led1 (.ref l) (E := E) (Q₁ := fun v s1 => v = .ref s.heap.objs.size ∧ s1 = { s with heap := s.heap.push (bare (ledW w)) }) ⟨rfl, rfl⟩) fun q s1 hq => ?_
  rcases q with e | f
  · exact hq
  cases f with
  | ret v =>
    obtain ⟨rfl, rfl⟩ := hq
    have at0 : (s.heap.push (bare (ledW w))).get? s.heap.objs.size = some (bare (ledW w)) := Heap.get?_push_size _ rfl
    have o6 := PySem.F.called_set.init.lookup
    have o7 := PySem.F.called_set.init.bind (.ref s.heap.objs.size)
    repeat (any_goals (first | assumption | wp_step))
    refine codeAny_mono (codeAny_call_builtin (R := wants (fun r s2 => r = .none ∧ ∃ h2 tk, s2 = { s with heap := h2, toks := tk } ∧ MadeI w s ns h2) E) PySem.F.called_set.init.plain PySem.F.entry_set_init (check_set_init_1 ⟨_, at0, rfl⟩ ?_)) fun q2 s2 hq2 => ?_
    · have l1 : (s.heap.push (bare (ledW w))).IsList l us := hl.push _
      obtain ⟨⟨cl, di, da, sl⟩, ho, ec, nn, ed⟩ := id hl
      dsimp only at ec ed
      subst ec ed
      have g1 := Heap.get?_push_of_some (bare (ledW w)) ho
      have o8 := PySem.F.sub_list_set
      have o9 := PySem.F.sub_list_frozenset
      have o10 : (Value.type "list" == Value.type "dict") = false := by decide
      unfold Builtin.«set.__init__» noKeywords Builtin.Frozenset.updateFrom
      generalize hit : pyIter = itr
      wp_walk
      subst hit
      refine wpAny_pyIter_list l1 (wpAny_bind (wpAny_runValue (filledI (A := A.in1.in1) (by simp [hh]) hl hx hsm fun h2 tk md => ?_)))
      refine wpAny_pure (wpAny_pure ⟨rfl, h2, tk, rfl, md⟩)
    · rcases q2 with e | f2
      · exact hq2
      cases f2 with
      | ret r =>
        obtain ⟨rfl, h2, tk, rfl, md⟩ := hq2
        repeat (any_goals (first | assumption | wp_step))
        exact h _ _ md
      | _ => exact hq2.elim
  | _ => exact hq.elim
end
end SSX
namespace Q
open PySem L2 PySem.Spec PyProof.Rows NdefX
def tSortSet (K : PySem.W.Frag) (ta : TE) : TE := fun σ H Q => ta σ H fun x H1 => ∃ l, ∃ ns : List Int, x = .ref l ∧ SqL K H1 l (ns.map V.int) ∧ ns.length < 60 ∧ ∀ (ys : List Int), ys.Pairwise (· < ·) → (∀ k, k ∈ ys ↔ k ∈ ns) → ∀ H2 : Hp, (∀ a o, H1 a = some o → H2 a = some o) → ∀ p, H2 p = none → Q (.ref p) (upd H2 p (.lst (ys.map V.int)))
theorem pe_sortSet {X : Cx} {a : Expr} {ta : TE} {p p2 q pos : Pos} (hc : X.calm = true) (hg : Gl X "sorted") (hm : X.mg "sorted" = none) (hg2 : Gl X "set") (hm2 : X.mg "set" = none) (ha : PE X a ta)
    (na : starEach [a] X.env = (false, eval a X.env) :: starEach [] X.env := by rfl) : PE X (.Call (.Name "sorted" p) [.Call (.Name "set" p2) [a] [] q] [] pos) (tSortSet X.K ta) := by
  refine ⟨fun pins s σ H Q I h => Call_ (ld_blt I hg hm boot_sorted (callWith_builtin1 (args_cons (Call_ (ld_blt I hg2 hm2 boot_set ?_)) rfl) rfl rfl))⟩
  refine callWith_type1 (args_cons (thn (ha.run pins s σ H _ I h) fun v s1 ⟨x, H1, I1, r1, l, ns, e, hq, hsm, q1⟩ => args_nil ?_) na) na rfl
  subst e
  cases r1
  obtain ⟨us, r, pl, hz⟩ := I1.list hq
  refine SSX.newInts (I1.ok.hd hc) pl.isList (ns := ns) (by simpa using intsAre_of r) (by omega) fun h2 tk md => args_nil ?_
  obtain ⟨⟨c, hcl, hS⟩, hk⟩ := md
  have I2 : L2.Inv X pins σ (upd H1 s1.heap.objs.size (SetO X.w s1.heap.objs.size (fun j => decide (j ∈ ns)) c)) { s1 with heap := h2, toks := tk } := I1.laid (t' := tk) (fun b o e => hk b o e) (Nat.le_refl _) (setO_new hS)
  refine cr_sortedSet hc pins _ σ _ [.ref s1.heap.objs.size] _ Q I2 (.cons rfl .nil) ⟨_, _, c, rfl, upd_same, by omega, fun ys p hs hm hl hn => q1 ys hs (fun k => (hm k).trans (by simp)) _ (fun a o ea => ?_) p hn⟩
  by_cases ea2 : a = s1.heap.objs.size
  · subst ea2
    rw [I1.hok.fresh (Nat.le_refl _)] at ea
    cases ea
  · rw [upd_ne ea2]
    exact ea
end Q
/-! xs[::-1] of a list or a tuple -/
namespace Q
open PySem L2 PySem.Spec PyProof.Rows
theorem adjust_back (n : Nat) : Builtin.Slice.sliceAdjust none none (-1) (n : Int) = ((n : Int) - 1, -1) := rfl
theorem places_back (n : Nat) : Builtin.Slice.slicePlaces ((n : Int) - 1) (-1) (-1) = n := by
  unfold Builtin.Slice.slicePlaces
  have g : ¬ ((-1 : Int) > 0) := by decide
  rw [if_neg g]
  by_cases q : (n : Int) - 1 > -1
  · rw [if_pos q]
    have e : ((n : Int) - 1 - -1 - 1) / (- -1) + 1 = (n : Int) := by
      rw [show (- -1 : Int) = 1 from rfl, Int.ediv_one]
      omega
    rw [e]
    rfl
  · rw [if_neg q]
    have : n = 0 := by omega
    rw [this]
    rfl
theorem fmB_congr {α β : Type} {f g : α → Option β} : ∀ {l : List α}, (∀ x ∈ l, f x = g x) → l.filterMap f = l.filterMap g
  | [], _ => rfl
  | a :: l, h => by
    rw [List.filterMap_cons, List.filterMap_cons, h a List.mem_cons_self, fmB_congr fun x hx => h x (List.mem_cons_of_mem _ hx)]
theorem pick_back (xs : Array Value) : ((List.range xs.size).filterMap fun (m : Nat) => xs[((xs.size : Int) - 1 + (m : Int) * (-1)).toNat]?).toArray = xs.toList.reverse.toArray := by
  have e : ((List.range xs.size).filterMap fun (m : Nat) => xs[((xs.size : Int) - 1 + (m : Int) * (-1)).toNat]?) = ((List.range xs.size).map fun k => xs.size - 1 - k).filterMap (xs[·]?) := by
    rw [List.filterMap_map]
    refine fmB_congr fun m hm => ?_
    have := List.mem_range.mp hm
    have : ((xs.size : Int) - 1 + (m : Int) * (-1)).toNat = xs.size - 1 - m := by omega
    show xs[_]? = xs[_]?
    rw [this]
  rw [e, PySem.W.krv_range, List.filterMap_reverse, PySem.W.krv_all]
section
variable {prog : Program} {w : World} {A : Around} {E : Value → Shared → Prop} {s : Shared}
theorem applied_back {sl : Addr} {st : Value} {n : Nat} {Q : Int × Int × Nat → Shared → Prop} (hs : s.heap.IsSliceOf sl .none .none st) (ps : IsPart st (some (-1))) (h : Q ((n : Int) - 1, -1, n) s) : wpAny (model prog w) A (Builtin.Slice.sliceApplied (.ref sl) (pure (n : Int))) Q E s := by
  obtain ⟨os, hos, _, hds⟩ := id hs
  unfold Builtin.Slice.sliceApplied Builtin.Slice.sliceFields
  refine wpAny_bind (wpAny_bind (wpAny_field hos hds (x := .none) rfl (wpAny_bind (wpAny_field hos hds (x := .none) rfl (wpAny_bind (wpAny_field hos hds (x := st) rfl (wpAny_pure ?_))))))); refine wpAny_bind (HT.slicePart_ ps ?_)
  show wpAny _ _ (if ((-1 : Int) == 0) = true then _ else _) _ _ s
  rw [if_neg (by decide)]
  refine wpAny_bind (slicePart_none (wpAny_bind (slicePart_none (wpAny_bind (wpAny_pure ?_)))))
  show wpAny _ _ (match Builtin.Slice.sliceAdjust none none (-1) (n : Int) with | (lo, hi) => pure (lo, (-1 : Int), Builtin.Slice.slicePlaces lo hi (-1))) _ _ s
  rw [adjust_back n]
  show wpAny _ _ (pure ((n : Int) - 1, (-1 : Int), Builtin.Slice.slicePlaces ((n : Int) - 1) (-1) (-1))) _ _ s
  rw [places_back]
  exact wpAny_pure h
theorem tuple_back {t sl : Addr} {items : Array Value} {st : Value} {Q : Value → Shared → Prop} (ht : IsTup s.heap t items) (hs : s.heap.IsSliceOf sl .none .none st) (ps : IsPart st (some (-1)))
    (h : Q (.ref s.heap.objs.size) { s with heap := s.heap.push { cls := .type "tuple", data := .seq items.toList.reverse.toArray } }) (hsz : items.size ≤ sizeLine) : wpAny (model prog w) A (getItem (.ref t) (.ref sl)) Q E s := by
  have hz : sizeOk (.seq items.toList.reverse.toArray) := by
    show items.toList.reverse.toArray.size ≤ sizeLine
    rw [List.size_toArray, List.length_reverse, Array.length_toList]; exact hsz
  obtain ⟨os, hos, hcs, hds⟩ := id hs
  have hTs : s.TypeIs (.ref sl) "slice" := ⟨os, hos, hcs⟩
  unfold getItem
  try with_reducible refine wpAny_holding ?_
  first | refine wpAny_bind (wpAny_pure ?_) | skip
  refine wpAny_bind (wpAny_sequenceKey ht.typeIs (by decide) ?_); refine wpAny_bind (wpAny_callSpecial?_slot (name := Str.ofString "__getitem__") ht.typeIs PyProof.Rows.slot_tuple_getitem (wpAny_call_entry PyProof.Rows.slot_tuple_getitem ht.typeIs entry_tuple_getitem ?_ (args_tuple_getitem _ _)))
  show wpAny _ _ (Builtin.Tuple.tupleItemsOf (.ref t) >>= _) _ _ s
  refine wpAny_bind (tupleItemsOf_ ht ?_); refine wpAny_bind (wpAny_typeOf hTs ?_)
  rw [if_pos (by decide)]
  refine wpAny_bind (applied_back hs ps ?_)
  have no : ¬ ((((items.size : Int) - 1 == 0 && (-1 : Int) == 1 && items.size == items.size)) = true) := by
    rw [show ((-1 : Int) == 1) = false from rfl, Bool.and_false, Bool.false_and]
    exact Bool.false_ne_true
  show wpAny _ _ (if (((items.size : Int) - 1 == 0 && (-1 : Int) == 1 && items.size == items.size)) = true then _ else _) _ _ s
  rw [if_neg no, pick_back]
  first
    | exact wpAny_bind (m := Builtin.Tuple.tupleExact _) (wpAny_newObj_type (wpAny_pure ⟨_, rfl, wpAny_pure h⟩) hz)
    | exact wpAny_bind (m := Builtin.Tuple.tupleExact _) (wpAny_newObj_type (wpAny_bind (wpAny_pure (wpAny_pure ⟨_, rfl, wpAny_pure h⟩))) hz)
    | exact wpAny_bind (wpAny_bind (m := Builtin.Tuple.tupleExact _) (wpAny_newObj_type (wpAny_pure (wpAny_pure ⟨_, rfl, wpAny_pure h⟩)) hz))
    | exact wpAny_bind (wpAny_bind (m := Builtin.Tuple.tupleExact _) (wpAny_newObj_type (wpAny_pure ⟨_, rfl, wpAny_pure h⟩) hz))
end
/-- xs[::-1] -/
def tBack (K : PySem.W.Frag) (te : TE) : TE := fun σ H Q => te σ H fun x H1 => (∃ a xs, x = .ref a ∧ SqL K H1 a xs ∧ ∀ p, H1 p = none → Q (.ref p) (upd H1 p (.lst xs.reverse))) ∨ (∃ a xs, x = .ref a ∧ SqT K H1 a xs ∧ ∀ p, H1 p = none → Q (.ref p) (upd H1 p (.tup xs.reverse)))
theorem Vals.rev {vs : List V} {us : List Value} (h : Vals vs us) : Vals vs.reverse us.reverse := vals_rev h
section
variable {X : Cx}
theorem pe_back {e : Expr} {te : TE} {k : Nat} {p1 p2 p3 pos : Pos} (he : PE X e te) : PE X (.Subscript e (.Slice none none (some (.UnaryOp .USub (.Constant (.int 1) k p1) p2)) p3) pos) (tBack X.K te) := by
  refine ⟨fun pins s σ H Q I h => Subscript_ (thn (he.run pins s σ H _ I h) fun v s1 ⟨x, H1, I1, r1, q1⟩ => wpAny_Slice ?_)⟩
  rw [evalPart_none]
  refine wpAny_pure (wpAny_pure ?_)
  refine thn ((L2.po_some (pe_neg (X := X) (n := 1) (k := k) (p1 := p1) (p2 := p2))).run pins s1 σ H1 (fun o H' => o = some (-1) ∧ H' = H1) I1 ⟨-1, rfl, rfl, rfl⟩) fun vu s3 ⟨u, H3, I3, pu, hu, hh⟩ => ?_
  subst hu hh
  have I4 : Inv X pins σ H3 { s3 with heap := s3.heap.push { cls := .type "slice", data := .fields #[.none, .none, vu] } } := I3.kept (t' := s3.toks) fun b ob q => Heap.get?_push_of_some _ q
  have hs : Heap.IsSliceOf (s3.heap.push { cls := .type "slice", data := .fields #[.none, .none, vu] }) s3.heap.objs.size .none .none vu := Heap.IsSliceOf.new ..
  rcases q1 with ⟨a, xs, rfl, hx, q⟩ | ⟨a, xs, rfl, hx, q⟩
  · cases r1
    obtain ⟨its, r, ht, hz⟩ := I4.list hx
    have hl := r.length
    refine tail_any (T := "list") (id := _) (ops := [.ref a, .ref s3.heap.objs.size]) ht.isList.typeIs slot_list_getitem.lookup ?_ (by with_unfolding_all rfl)
    refine wpAny_getItem_list_slice ht.isList hs .none .none pu (by decide) ?_ (by rw [List.size_toArray]; omega)
    rw [PySem.W.krv_pick]
    exact ⟨.ref _, _, I4.laid (t' := s3.toks) (o := .lst xs.reverse) (fun b ob q => Heap.get?_push_of_some _ q) (Nat.le_refl _) ⟨by rw [List.length_reverse]; exact hz, _, 0, by simpa using Vals.rev r, Heap.get?_push_size _ rfl⟩, rfl, q _ (I4.hok.fresh (Nat.le_refl _))⟩
  · cases r1
    obtain ⟨its, r, ht, hz⟩ := I4.tuple hx
    have hl := r.length
    refine tail_any (T := "tuple") (id := _) (ops := [.ref a, .ref s3.heap.objs.size]) ht.typeIs PyProof.Rows.slot_tuple_getitem.lookup ?_ (by with_unfolding_all rfl)
    refine tuple_back ht hs pu ?_ (by rw [List.size_toArray]; omega)
    exact ⟨.ref _, _, I4.laid (t' := s3.toks) (o := .tup xs.reverse) (fun b ob q => Heap.get?_push_of_some _ q) (Nat.le_refl _) ⟨by rw [List.length_reverse]; exact hz, _, by simpa using Vals.rev r, IsTup.new _ _⟩, rfl, q _ (I4.hok.fresh (Nat.le_refl _))⟩
theorem RepL.back {φ F H} {vs : List V} {ds : List D} (r : RepL φ F H vs ds) : RepL φ F H vs.reverse ds.reverse := by
  induction vs generalizing ds with
  | nil => cases r; exact .nil
  | cons v vs ih =>
    cases r with
    | cons h t =>
      rw [List.reverse_cons, List.reverse_cons]
      exact RepL.snoc (ih t) h
/-- the same over plain states -/
def xBack (f : Ex) : Ox := fun E st Q => f E st fun r st1 => opt (look st1 r) fun d => match d with
  | .lst ds => Q (.lst ds.reverse) st1
  | .tup ds => Q (.d (.tup ds.reverse)) st1
  | _ => False
theorem po_back {e ee : Expr} {f : Ex} (h : ∀ {te : TE}, PE X e te → PE X ee (tBack X.K te)) (he : PX X e f) : PO X ee (xBack f) := fun c l => peOf (h (he c l)) fun σ H Q ⟨W, st, H1, Q0, hH, P, q, k⟩ =>
  ⟨W, st, H1, _, hH, P, q, fun r st1 v W1 H2 q1 s1 P1 rv => by
    obtain ⟨d, e1, q1⟩ := opt_ex q1
    have t := P1.top rv e1
    split at q1
    · have hk : Res c W1 st1 σ H2 (.lst _) Q := fun v' W' H5 s5 P5 ov => k _ _ _ _ _ q1 (s1.trans s5) P5 ov
      cases t with
      | lst h1 r1 => exact .inl ⟨_, _, rfl, SqL.of (P1.nol h1 rfl), hk.new P1 rfl fun p hp => ⟨_, upd_same, r1.back.fut (fut_new W1 hp)⟩⟩
    · have hk : Res c W1 st1 σ H2 (.d (.tup _)) Q := fun v' W' H5 s5 P5 ov => k _ _ _ _ _ q1 (s1.trans s5) P5 ov
      cases t with
      | tup h1 r1 => exact .inr ⟨_, _, rfl, SqT.of (P1.nol h1 rfl), hk.newT P1 r1.back⟩
    · exact q1.elim⟩
end
end Q
/-! calls of defs that want no repr under way; o.p whose answer is a dict that may be emptied -/
/-! repr of a list with dicts of the store; d.clear() of such a dict -/
/-! a slot's own list that stays its own while an expression has it, where nothing is changed and the answer holds no list -/
namespace Q
open PySem L2 PySem.Spec PyProof.Rows
mutual
def noL : D → Bool
  | .lst _ => false
  | .scr _ => false
  | .tup xs => noLs xs
  | .dK kvs => noLk kvs
  | .dT kvs => noLt kvs
  | .ins _ fs => noLf fs
  | .exc _ _ _ fs => noLf fs
  | _ => true
def noLs : List D → Bool
  | [] => true
  | x :: xs => noL x && noLs xs
def noLk : List (Key × D) → Bool
  | [] => true
  | (_, x) :: xs => noL x && noLk xs
def noLt : List (List Key × D) → Bool
  | [] => true
  | (_, x) :: xs => noL x && noLt xs
def noLf : List (Str × D) → Bool
  | [] => true
  | (_, x) :: xs => noL x && noLf xs
end
end Q
/-! sorted(a list of tuples (text, x)), the texts all unlike -/
namespace SrtN
open PySem PyProof.Rows PySem.W SrtO
def NamAt (h : Heap) (v : Value) (b : Str) (y : Value) : Prop := ∃ a o t n, v = .ref a ∧ h.get? a = some o ∧ o.cls = .type "tuple" ∧ o.data = .seq #[.str b t, y] n
section
variable {prog : Program} {w : World} {A : Around} {E : Value → Shared → Prop} {s : Shared}
theorem NamAt.keeps {h h' : Heap} {v y : Value} {b : Str} (k : ∀ a o, h.get? a = some o → o.cls = .type "tuple" → h'.get? a = some o) (q : NamAt h v b y) : NamAt h' v b y := by
  obtain ⟨a, o, t, n, e, ho, hc, hd⟩ := q
  exact ⟨a, o, t, n, e, k a o ho hc, hc, hd⟩
end
end SrtN
/-! sorted(a list of tuples (text, x)) over plain data -/
/-! def told(call): try: call() / except C as e: return [e.f, isinstance(e, ValueError)] / return None -/
/-! told(lambda: e), told of the kind of P101, over plain states -/
/-! the walk of a law with a def that makes lambdas, where repr is wanted, too -/
/-! len(set(list or tuple of texts)); repr of a dict; o == a tuple; != of dicts -/
/-! a list of anything != []; o == a tuple -/
namespace Q
open PySem L2 PySem.Spec PyProof.Rows NdefX
section
variable {X : Cx} {n : Nat} {f C : Addr} {fd : FuncData} {ps : List Str} {sp : Sp}
/-- o == a tuple, by an own __eq__ -/
def rEqOwnT (C : Addr) (sp : Sp) : R2 := fun x y H Q => ∃ a b ys, x = .ref a ∧ y = .ref b ∧ IsIns H a C ∧ H b = some (.tup ys) ∧ sp [.ref a, .ref b] H (boolQ Q) E0
theorem op_eqOwnT {CX : CXT} (S : Spc X C "__eq__" f) (hn : PySem.W.notFirst X.K C (.type "tuple") = true) (F : FnOk X.prog X.w X.K X.mg X.base CX n f fd ps sp) (hr : Room n X.A) (hb : Binds X.K fd ps []) (hx : Passes CX X E0) : OpR X (compareOp .Eq) (rEqOwnT C sp) := by
  intro pins s σ H x y v u Q I rx ry h
  obtain ⟨a, b, ys, rfl, rfl, hi, hb', q⟩ := h
  cases rx
  cases ry
  obtain ⟨ox, od, J⟩ := ins_at I hi
  obtain ⟨z, us, r, o, e, eo, _⟩ := I.hok b _ hb'
  obtain ⟨m, hF⟩ := I.fr
  have LT : PySem.W.Looks (model X.prog X.w) s.heap (typeOf (.ref b)) (.type "tuple") := fun A Q E s k q => wpAny_typeOf_ref (k _ _ e) (by rw [eo]; exact q)
  show wpAny (model X.prog X.w) X.A (richCompare .Eq (.ref a) (.ref b)) (EP X pins σ Q) X.xe s
  refine PySem.W.cmp_K (op := .Eq) (tb := .type "tuple") hr.units0 hF I.ok.mod.kin J LT hn S.at_ S.fn (wpAny_mono (run_at (vs := [.ref a, .ref b]) F hb hx ⟨hr, rfl⟩ I (.cons rfl (.cons rfl .nil)) q) (fun r s' z => ?_) fun _ _ e => e)
  obtain ⟨z, H', I', rz, b, rfl, q'⟩ := z
  cases rz
  exact ⟨.bl b, H', I', rfl, q'⟩
end
section
variable {X : Cx} {C : Addr} {z : Nat × MF}
def xEqT (C : Addr) (z : Nat × MF) (f1 f2 : Ex) : Ox := fun E st Q => f1 E st fun r1 st1 => f2 E st1 fun r2 st2 => clsOf st2 r1 "__eq__" = some C ∧ (∃ ds, r2 = .v (.tup ds)) ∧ cP z.1 z.2 E0k st2 [r1, r2] fun o st3 => opt (isB o) fun b => Q (.d (.bl b)) st3
theorem eqT_go {f1 f2 : Ex} {c : C0} {σ : L2.St} {H : Hp} {Q : VK} (h : tO c (xEqT C z f1 f2) σ H Q) : tOp (rEqOwnT C (spM false z.1 z.2)) (tX c f1) (tX c f2) σ H Q := by
  obtain ⟨W, st, H1, Q0, hH, P, q, k⟩ := h
  refine ⟨W, st, H1, _, hH, P, q, fun r1 st1 v1 W1 H2 q1 s1 P1 rv1 => ⟨W1, st1, H2, _, rfl, P1, q1, fun r2 st2 v2 W2 H3 q2 s2 P2 rv2 => ?_⟩⟩
  obtain ⟨e1, ⟨ds, rfl⟩, q2⟩ := q2
  obtain ⟨p, dx, fs, rfl, hp, _⟩ := cls_at P2 (rv1.step P1 s2) e1
  have t2 : Rp W2 H3 v2 (.tup ds) := rv2
  have go : spM false z.1 z.2 [.ref p, v2] (lockH W2.L H3) (boolQ Q) E0 := cP0_ok E0 P2 (.cons (rv1.step P1 s2) (.cons rv2 .nil)) q2 fun o st3 v W3 H4 q3 s3 P3 ov => by
    obtain ⟨b, e3, q3⟩ := opt_ex q3
    have := ov_bl ov e3
    subst this
    exact ⟨b, rfl, k _ _ _ _ _ q3 ((s1.trans s2).trans s3) P3 (.bl _ : Rp W3 H4 _ (.bl _))⟩
  cases t2 with
  | tup b1 b2 => exact ⟨p, _, _, rfl, rfl, ⟨dx, fs, hp⟩, P2.nol b1 rfl, go⟩
theorem pxt_eqT {a b ee : Expr} {f1 f2 : Ex} (h : ∀ {t1 t2 : TE}, PE X a t1 → PE X b t2 → PT X ee (tTest (tOp (rEqOwnT C (spM false z.1 z.2)) t1 t2))) (h1 : PX X a f1) (h2 : PX X b f2) : PXT X ee (xTO (xEqT C z f1 f2)) := pxt_O h h1 h2 fun c σ H Q q => eqT_go q
end
end Q
/-! an expression in a calm state: it sees the slots' plain data alone, no cells; its answer holds no list; the slots stay as they were -/
namespace Q
open PySem L2 PySem.Spec PyProof.Rows
mutual
def noC : D → Bool
  | .cell _ => false
  | .rows _ => false
  | .lst xs => noCs xs
  | .tup xs => noCs xs
  | .dK kvs => noCk kvs
  | .dT kvs => noCt kvs
  | .ins _ fs => noCf fs
  | .exc _ _ _ fs => noCf fs
  | _ => true
def noCs : List D → Bool
  | [] => true
  | x :: xs => noC x && noCs xs
def noCk : List (Key × D) → Bool
  | [] => true
  | (_, x) :: xs => noC x && noCk xs
def noCt : List (List Key × D) → Bool
  | [] => true
  | (_, x) :: xs => noC x && noCt xs
def noCf : List (Str × D) → Bool
  | [] => true
  | (_, x) :: xs => noC x && noCf xs
end
section
variable {φ φ2 : List (Addr × Addr)} {F F2 : Addr → Prop} {H : Hp} {P : Addr → Prop}
mutual
theorem Rep.lift (hF : ∀ x, F x → F2 x) : ∀ {d : D} {v : V}, Rep φ F H v d → noC d = true → Rep φ2 F2 H v d
  | .non, _, h, _ => by cases h; exact .non
  | .bl b, _, h, _ => by cases h; exact .bl b
  | .int b, _, h, _ => by cases h; exact .int b
  | .str b, _, h, _ => by cases h; exact .str b
  | .byt b, _, h, _ => by cases h; exact .byt b
  | .ty b, _, h, _ => by cases h; exact .ty b
  | .cls b, _, h, _ => by cases h; exact .cls b
  | .cell n, _, h, e => by rw [noC] at e; cases e
  | .rows n, _, h, e => by rw [noC] at e; cases e
  | .lst ds, _, h, e => by
    rw [noC] at e
    cases h with
    | lst h1 h2 h3 => exact .lst (hF _ h1) h2 (RepL.lift hF h3 e)
  | .scr ns, _, h, _ => by
    cases h with
    | scr h1 h2 => exact .scr (hF _ h1) h2
  | .tup ds, _, h, e => by
    rw [noC] at e
    cases h with
    | tup h2 h3 => exact .tup h2 (RepL.lift hF h3 e)
  | .dK ds, _, h, e => by
    rw [noC] at e
    cases h with
    | dK h1 h2 h3 => exact .dK (hF _ h1) h2 (RepK.lift hF h3 e)
  | .dT ds, _, h, e => by
    rw [noC] at e
    cases h with
    | dT h1 h2 h3 => exact .dT (hF _ h1) h2 (RepT.lift hF h3 e)
  | .ins C ds, _, h, e => by
    rw [noC] at e
    cases h with
    | ins h1 h2 h3 => exact .ins (hF _ h1) h2 (RepF.lift hF h3 e)
  | .exc x d C ds, _, h, e => by
    rw [noC] at e
    cases h with
    | exc h1 h2 h3 => exact .exc (hF _ h1) h2 (RepF.lift hF h3 e)
theorem RepL.lift (hF : ∀ x, F x → F2 x) : ∀ {ds : List D} {vs : List V}, RepL φ F H vs ds → noCs ds = true → RepL φ2 F2 H vs ds
  | [], _, h, _ => by cases h; exact .nil
  | d :: ds, _, h, e => by
    rw [noCs, Bool.and_eq_true] at e
    cases h with
    | cons h1 h2 => exact .cons (Rep.lift hF h1 e.1) (RepL.lift hF h2 e.2)
theorem RepK.lift (hF : ∀ x, F x → F2 x) : ∀ {ds : List (Key × D)} {vs : List (Key × V)}, RepK φ F H vs ds → noCk ds = true → RepK φ2 F2 H vs ds
  | [], _, h, _ => by cases h; exact .nil
  | (k, d) :: ds, _, h, e => by
    rw [noCk, Bool.and_eq_true] at e
    cases h with
    | cons h1 h2 => exact .cons (Rep.lift hF h1 e.1) (RepK.lift hF h2 e.2)
theorem RepT.lift (hF : ∀ x, F x → F2 x) : ∀ {ds : List (List Key × D)} {vs : List (List Key × V)}, RepT φ F H vs ds → noCt ds = true → RepT φ2 F2 H vs ds
  | [], _, h, _ => by cases h; exact .nil
  | (k, d) :: ds, _, h, e => by
    rw [noCt, Bool.and_eq_true] at e
    cases h with
    | cons h1 h2 => exact .cons (Rep.lift hF h1 e.1) (RepT.lift hF h2 e.2)
theorem RepF.lift (hF : ∀ x, F x → F2 x) : ∀ {ds : List (Str × D)} {vs : List (Str × V)}, RepF φ F H vs ds → noCf ds = true → RepF φ2 F2 H vs ds
  | [], _, h, _ => by cases h; exact .nil
  | (k, d) :: ds, _, h, e => by
    rw [noCf, Bool.and_eq_true] at e
    cases h with
    | cons h1 h2 => exact .cons (Rep.lift hF h1 e.1) (RepF.lift hF h2 e.2)
end
theorem calm_P {u : HO} {x : Addr} (hP : ∀ x, F x → ¬ P x → ∃ ys, H x = some (.lst ys)) (h1 : F x) (h2 : H x = some u) (hu : ∀ ys, u ≠ .lst ys) : F x ∧ P x :=
  ⟨h1, Classical.byContradiction fun n => by
    obtain ⟨ys, e⟩ := hP x h1 n
    rw [h2] at e
    exact hu ys (Option.some.inj e)⟩
mutual
theorem Rep.calm (hP : ∀ x, F x → ¬ P x → ∃ ys, H x = some (.lst ys)) : ∀ {d : D} {v : V}, Rep [] F H v d → noL d = true → Rep φ2 (fun x => F x ∧ P x) H v d
  | .non, _, h, _ => by cases h; exact .non
  | .bl b, _, h, _ => by cases h; exact .bl b
  | .int b, _, h, _ => by cases h; exact .int b
  | .str b, _, h, _ => by cases h; exact .str b
  | .byt b, _, h, _ => by cases h; exact .byt b
  | .ty b, _, h, _ => by cases h; exact .ty b
  | .cls b, _, h, _ => by cases h; exact .cls b
  | .cell n, _, h, _ => by
    cases h with
    | cell e => cases e
  | .rows n, _, h, _ => by
    cases h with
    | rows e => cases e
  | .lst ds, _, h, e => by rw [noL] at e; cases e
  | .scr ds, _, h, e => by rw [noL] at e; cases e
  | .tup ds, _, h, e => by
    rw [noL] at e
    cases h with
    | tup h2 h3 => exact .tup h2 (RepL.calm hP h3 e)
  | .dK ds, _, h, e => by
    rw [noL] at e
    cases h with
    | dK h1 h2 h3 => exact .dK (calm_P hP h1 h2 nofun) h2 (RepK.calm hP h3 e)
  | .dT ds, _, h, e => by
    rw [noL] at e
    cases h with
    | dT h1 h2 h3 => exact .dT (calm_P hP h1 h2 nofun) h2 (RepT.calm hP h3 e)
  | .ins C ds, _, h, e => by
    rw [noL] at e
    cases h with
    | ins h1 h2 h3 => exact .ins (calm_P hP h1 h2 nofun) h2 (RepF.calm hP h3 e)
  | .exc x d C ds, _, h, e => by
    rw [noL] at e
    cases h with
    | exc h1 h2 h3 => exact .exc (calm_P hP h1 h2 nofun) h2 (RepF.calm hP h3 e)
theorem RepL.calm (hP : ∀ x, F x → ¬ P x → ∃ ys, H x = some (.lst ys)) : ∀ {ds : List D} {vs : List V}, RepL [] F H vs ds → noLs ds = true → RepL φ2 (fun x => F x ∧ P x) H vs ds
  | [], _, h, _ => by cases h; exact .nil
  | d :: ds, _, h, e => by
    rw [noLs, Bool.and_eq_true] at e
    cases h with
    | cons h1 h2 => exact .cons (Rep.calm hP h1 e.1) (RepL.calm hP h2 e.2)
theorem RepK.calm (hP : ∀ x, F x → ¬ P x → ∃ ys, H x = some (.lst ys)) : ∀ {ds : List (Key × D)} {vs : List (Key × V)}, RepK [] F H vs ds → noLk ds = true → RepK φ2 (fun x => F x ∧ P x) H vs ds
  | [], _, h, _ => by cases h; exact .nil
  | (k, d) :: ds, _, h, e => by
    rw [noLk, Bool.and_eq_true] at e
    cases h with
    | cons h1 h2 => exact .cons (Rep.calm hP h1 e.1) (RepK.calm hP h2 e.2)
theorem RepT.calm (hP : ∀ x, F x → ¬ P x → ∃ ys, H x = some (.lst ys)) : ∀ {ds : List (List Key × D)} {vs : List (List Key × V)}, RepT [] F H vs ds → noLt ds = true → RepT φ2 (fun x => F x ∧ P x) H vs ds
  | [], _, h, _ => by cases h; exact .nil
  | (k, d) :: ds, _, h, e => by
    rw [noLt, Bool.and_eq_true] at e
    cases h with
    | cons h1 h2 => exact .cons (Rep.calm hP h1 e.1) (RepT.calm hP h2 e.2)
theorem RepF.calm (hP : ∀ x, F x → ¬ P x → ∃ ys, H x = some (.lst ys)) : ∀ {ds : List (Str × D)} {vs : List (Str × V)}, RepF [] F H vs ds → noLf ds = true → RepF φ2 (fun x => F x ∧ P x) H vs ds
  | [], _, h, _ => by cases h; exact .nil
  | (k, d) :: ds, _, h, e => by
    rw [noLf, Bool.and_eq_true] at e
    cases h with
    | cons h1 h2 => exact .cons (Rep.calm hP h1 e.1) (RepF.calm hP h2 e.2)
end
end
def calmO : O → O
  | .d x => if noC x = true then .d x else .un
  | .lst xs => if noCs xs = true then .d (.lst xs) else .un
  | _ => .un
theorem calmO_flat (o : O) : (calmO o).owned = false := by
  cases o with
  | d x => show O.owned (if noC x = true then .d x else .un) = false; split <;> rfl
  | lst x => show O.owned (if noCs x = true then .d (.lst x) else .un) = false; split <;> rfl
  | _ => rfl
/-- the addresses that the slots alone bear -/
def slotsOwn (ρ : List O) (σ : L2.St) (a : Addr) : Prop := ∃ i, slotOwns ρ σ i a
def Wd.calm (W : Wd) (ρ : List O) (σ : L2.St) : Wd := { φ := [], owns := [], F := fun a => W.F a ∨ ∃ (i : Nat) (xs : List D), ρ[i]? = some (O.lst xs) ∧ σ[i]? = some (some (V.ref a)), L := W.L }
theorem Wd.calm_own {W : Wd} {ρ : List O} {σ : L2.St} {a : Addr} : ¬ (W.calm ρ σ).own a := fun ⟨w, h, _⟩ => by cases h
abbrev C0.calm (W : Wd) (H : Hp) : C0 := { W0 := W, H0 := H, rw := false, E := E0k, R := fun _ => False }
theorem calm_get {ρ : List O} {i : Nat} {o : O} (h : (ρ.map calmO)[i]? = some o) : ∃ p, ρ[i]? = some p ∧ o = calmO p := by
  rw [List.getElem?_map] at h
  obtain ⟨p, h1, h2⟩ := Option.map_eq_some_iff.mp h
  exact ⟨p, h1, h2.symm⟩
theorem Pre.calm {c : C0} {W : Wd} {st : Ps} {σ : L2.St} {H : Hp} (P : Pre c W st σ H) (hL : c.rw = false → ∀ a, ¬ W.own a) : Pre (C0.calm (W.calm st.ρ σ) H) (W.calm st.ρ σ) ⟨st.ρ.map calmO, [], false, false⟩ σ H := by
  have fd : ∀ a, (W.calm st.ρ σ).F a → ∃ o, H a = some o := fun a h => by
    rcases h with h | ⟨i, xs, h1, h2⟩
    · exact P.base.fdom a h
    · obtain ⟨u, e, _⟩ := P.sthere ⟨_, h1, rfl, h2⟩
      exact ⟨u, e⟩
  have no : ∀ i a, ¬ slotOwns (st.ρ.map calmO) σ i a := fun i a ⟨o, h1, h2, _⟩ => by
    obtain ⟨p, _, rfl⟩ := calm_get h1
    rw [calmO_flat] at h2
    cases h2
  refine ⟨rfl, Step.refl _ _ _, fun a h => .inl h, ⟨fd, ⟨rfl, rfl⟩, fun n a x w h => (by cases h), fun m n w w' x h => (by cases h), (fun z => by cases z), P.base.lN, fun a o h => ?_⟩, ?_, fun i o h => ?_, fun i a h => (no i a h).elim, fun i j a h => (no i a h).elim, fun a h => h.elim, (fun z => by cases z), fun a h => (Wd.calm_own h).elim⟩
  · obtain ⟨h1, h2⟩ := P.base.lF a o h
    refine ⟨.inl ?_, h2⟩
    rcases h1 with h1 | ⟨hr, h1⟩
    · exact .inl h1
    · exact (hL hr a h1).elim
  · show (st.ρ.map calmO).length = _
    rw [List.length_map]
    exact P.slen
  · obtain ⟨p, hp, rfl⟩ := calm_get h
    have s := P.slot i p hp
    cases p with
    | d x =>
      show SlotOk _ H (if noC x = true then .d x else .un) _
      split
      · rename_i e
        obtain ⟨v, e1, e2⟩ := (s : ∃ v, _ = some v ∧ Rp W H v x)
        exact ⟨v, e1, Rep.lift (fun a h => .inl h) e2 e⟩
      · trivial
    | lst xs =>
      show SlotOk _ H (if noCs xs = true then .d (.lst xs) else .un) _
      split
      · rename_i e
        obtain ⟨a, e1, ys, e2, e3⟩ := (s : ∃ a, _ = some (V.ref a) ∧ ∃ ys, H a = some (.lst ys) ∧ RepL W.φ W.F H ys xs)
        exact ⟨.ref a, e1, .lst (.inr ⟨i, xs, hp, join_ref e1⟩) e2 (RepL.lift (fun a h => .inl h) e3 e)⟩
      · trivial
    | un => trivial
    | dK _ => trivial
    | dT _ => trivial
    | ins _ _ _ => trivial
/-- the world behind a calm expression -/
def Wd.wake (W W' : Wd) (ρ : List O) (σ : L2.St) : Wd := { φ := W.φ, owns := W.owns, F := fun x => W'.F x ∧ ¬ slotsOwn ρ σ x, L := W'.L }
theorem Pre.wake {c : C0} {W W' : Wd} {st st' : Ps} {σ : L2.St} {H H' : Hp} (P : Pre c W st σ H) (s : Step false (W.calm st.ρ σ) H W' H') (P' : Pre (C0.calm (W.calm st.ρ σ) H) W' st' σ H') (eS : st'.S = []) :
    Step c.rw W H (W.wake W' st.ρ σ) H' ∧ Pre c (W.wake W' st.ρ σ) st σ H' := by
  have kp : ∀ b o, H b = some o → H' b = some o := fun b o e => s.keep b o e fun z => by cases z
  have nown : ∀ a, ¬ W'.own a := fun a ⟨w, h, _⟩ => by
    have := P'.base.len.2
    rw [eS] at this
    rw [List.length_eq_zero_iff.mp this] at h
    cases h
  have sF : ∀ a, W.F a → (W.wake W' st.ρ σ).F a := fun a h => ⟨s.sub a (.inl h), fun ⟨i, z⟩ => (P.sown i a z).1 h⟩
  have s3 : Step c.rw W H (W.wake W' st.ρ σ) H' := ⟨fun _ _ e => e, sF, fun b o e _ => kp b o e, s.tups, s.dom, fun b h => .inl h, s.locks, fun b h => .inl h⟩
  have back : ∀ a, (W.wake W' st.ρ σ).F a → W.F a ∨ H a = none := fun a ⟨h, n⟩ => (P'.new a h).elim (fun z => z.elim .inl fun ⟨i, xs, h1, h2⟩ => (n ⟨i, _, h1, rfl, h2⟩).elim) .inr
  have ft : Fut W.φ W.F H (W.wake W' st.ρ σ).φ (W.wake W' st.ρ σ).F H' := ⟨fun _ _ e => e, sF, fun b o _ e => kp b o e, s.tups⟩
  refine ⟨s3, P.hrw, P.step.trans s3, fun b h => ?_, ⟨fun b h => P'.base.fdom b h.1, P.base.len, fun n y cl w g1 g2 g3 => ?_, P.base.apart, fun hr a ha hb => ?_, P'.base.lN, fun b o h => ?_⟩, P.slen, fun j o h => ?_, fun j b h => ?_, P.sapart, fun b h => ?_, fun h => ?_, P.own0⟩
  · rcases back b h with z | z
    · exact P.new b z
    · exact .inr (Classical.byContradiction fun y => P.step.dom b y z)
  · refine (P.base.cell n y cl w g1 g2 g3).fut ft fun x hx => ?_
    obtain ⟨o, e, _⟩ := (P.base.cell n y cl w g1 g2 g3).there x hx
    rw [e, kp x o e]
  · rcases back a hb with z | z
    · exact P.base.ownF hr a ha z
    · obtain ⟨w, hw, hx⟩ := ha
      obtain ⟨o, e, _⟩ := P.base.own_there ⟨w, hw, hx⟩
      rw [e] at z
      cases z
  · obtain ⟨k1, u, k2, k3⟩ := P'.base.lF b o h
    rcases k1 with k1 | ⟨_, k1⟩
    · refine ⟨.inl ⟨k1, fun ⟨i, z⟩ => ?_⟩, u, k2, k3⟩
      rcases P'.new b k1 with y | y
      · rcases y with y | ⟨j, xs, h1, h2⟩
        · exact (P.sown i b z).1 y
        · obtain ⟨a, e1, oa⟩ := (P.slot j _ h1 : ∃ a, _ = some (V.ref a) ∧ OwnAt W H a (.lst xs))
          obtain ⟨ys, e2, _⟩ := (oa : ∃ ys, H a = some (.lst ys) ∧ _)
          have e3 := join_ref e1
          rw [h2] at e3
          cases e3
          rw [kp _ _ e2] at k2
          cases k2
          cases k3
      · obtain ⟨v, e, _⟩ := P.sthere z
        have y : H b = none := y
        rw [e] at y
        cases y
    · exact (nown b k1).elim
  · refine (P.slot j o h).fut ft fun b e3 e4 => ?_
    obtain ⟨u, e, _⟩ := P.sthere ⟨o, h, e4, join_ref e3⟩
    rw [e, kp b u e]
  · obtain ⟨h1, h2, h3⟩ := P.sown j b h
    exact ⟨fun z => z.2 ⟨j, h⟩, h2, h3⟩
  · obtain ⟨h1, h2, ⟨u, h3⟩, h4⟩ := P.rsv b h
    refine ⟨fun z => ?_, h2, ⟨u, kp b u h3⟩, h4⟩
    rcases back b z with y | y
    · exact h1 y
    · rw [h3] at y; cases y
  · exact ⟨(P.hvw h).1, fun b hb => sF b ((P.hvw h).2 b hb)⟩
def xCalm (g : Ox) : Ox := fun E st Q => (st.rw = true) ∧ g E0k ⟨st.ρ.map calmO, [], false, false⟩ fun o st' => st'.S = [] ∧ match o with
  | .d d => noL d = true ∧ Q (.d d) st
  | _ => False
theorem po_calm {X : Cx} {e : Expr} {g : Ox} (h : PO X e g) : PO X e (xCalm g) := fun c l => ⟨fun pins s σ H Q I ⟨W, st, H1, Q0, hH, P, ⟨hr, q⟩, k⟩ => by
  have hc : c.rw = true := P.hrw.symm.trans hr
  have l' : Lk X (C0.calm (W.calm st.ρ σ) H1) := Takes.imp l fun cls od σ H ⟨_, _, _, _, _, _, _, _, _, z⟩ => z.elim
  refine (h (C0.calm (W.calm st.ρ σ) H1) l').run pins s σ H Q I ⟨W.calm st.ρ σ, _, H1, _, hH, P.calm (fun z => by rw [hc] at z; cases z), q, fun o st' v W' H2 q1 s1 P1 ov => ?_⟩
  obtain ⟨eS, q1⟩ := q1
  split at q1
  · rename_i d
    obtain ⟨s3, P3⟩ := P.wake s1 P1 eS
    have eφ : W'.φ = [] := by
      have := P1.base.len.1
      rw [eS] at this
      exact List.length_eq_zero_iff.mp this
    have ov : Rep W'.φ W'.F H2 v d := ov
    rw [eφ] at ov
    refine k (.d d) st v (W.wake W' st.ρ σ) H2 q1.2 s3 P3 (show Rp (W.wake W' st.ρ σ) H2 v d from Rep.calm (fun x hx hn => ?_) ov q1.1)
    obtain ⟨i, z⟩ := Classical.not_not.mp hn
    rcases P1.new x hx with y | y
    · rcases y with y | ⟨j, xs, h1, h2⟩
      · exact ((P.sown i x z).1 y).elim
      · obtain ⟨a, e1, oa⟩ := (P.slot j _ h1 : ∃ a, _ = some (V.ref a) ∧ OwnAt W H1 a (.lst xs))
        obtain ⟨ys, e2, _⟩ := (oa : ∃ ys, H1 a = some (.lst ys) ∧ _)
        have e3 := join_ref e1
        rw [h2] at e3
        cases e3
        exact ⟨ys, s1.keep _ _ e2 fun z => by cases z⟩
    · obtain ⟨v, e, _⟩ := P.sthere z
      have y : H1 x = none := y
      rw [e] at y
      cases y
  · exact q1.elim⟩
end Q
/-! xs[i] = v and xs.clear() of a slot's own list; an own != with None -/
namespace Q
open PySem L2 PySem.Spec PyProof.Rows
section
variable {prog : Program} {w : World} {A : Around} {E : Value → Shared → Prop} {s : Shared}
theorem put_at {m : Addr} {zs : Array Value} {n : Nat} {j : Int} {t : Tok} {u : Value} {R : Unit → Shared → Prop} (e : s.heap.get? m = some { cls := .type "list", data := .seq zs n }) (j0 : 0 ≤ j) (j1 : j < 2 ^ 63) (jn : j < zs.size)
    (h : R () { s with heap := s.heap.update m (Obj.mapSeq (·.setIfInBounds j.toNat u)) }) : wpAny (model prog w) A (setItem (.ref m) (.int j t) u) R E s := by
  have lm : s.heap.IsList m zs := PySem.IsL.isList e
  obtain ⟨o, go, co, no, dd⟩ := id lm
  unfold setItem
  try with_reducible (refine wpAny_holding ?_)
  first | (refine wpAny_bind (wpAny_pure ?_)) | skip
  refine wpAny_bind (wpAny_sequenceKey lm.typeIs (by decide) (wpAny_bind (wpAny_callSpecial?_slot (name := Str.ofString "__setitem__") lm.typeIs slot_list_setitem
    (wpAny_call_entry slot_list_setitem lm.typeIs entry_list_setitem ?_ (args_list_setitem _ _ _)))))
  show wpAny _ _ (Builtin.List.listSubscript? (.int j t) >>= _) _ _ s
  refine wpAny_bind (wpAny_listSubscript_int (fitsIndex_of j0 j1) ?_)
  clear j1
  obtain ⟨i, rfl⟩ := Int.eq_ofNat_of_zero_le j0
  have hi : i < zs.size := by omega
  have gi : zs[i]? = some zs[i] := Array.getElem?_eq_getElem hi
  show wpAny _ _ ((seqItemAt m i >>= fun r => pure (r.map (i, ·))) >>= _) _ _ s
  refine wpAny_bind (wpAny_bind (wpAny_seqItemAt go dd (wpAny_pure ?_)))
  rw [gi]
  show wpAny _ _ (setSeqItemAt m i u >>= _) _ _ s
  refine wpAny_bind (wpAny_setSeqItemAt go dd ?_)
  first
    | exact wpAny_bind (wpAny_pure (wpAny_pure ⟨.none, rfl, wpAny_pure h⟩))
    | exact wpAny_pure ⟨.none, rfl, wpAny_pure h⟩
end
theorem Vals.setAt {xs : List V} {us : List Value} {v : V} {u : Value} (r : Vals xs us) (q : RelV v u) : ∀ k, Vals (xs.set k v) (us.set k u) := by
  induction r with
  | nil => intro k; exact .nil
  | cons a b ih =>
    intro k
    cases k with
    | zero => exact .cons q b
    | succ k => exact .cons a (ih k)
/-- xs[y] = v -/
def sLPut (td ty tv : TE) : TS := fun D σ H => tv σ H fun v H1 => td σ H1 fun x H2 => ty σ H2 fun y H3 => ∃ (l : Addr) (xs : List V) (k : Nat), x = .ref l ∧ y = .int (k : Int) ∧ k < xs.length ∧ H3 l = some (.lst xs) ∧ D.nx σ (upd H3 l (.lst (xs.set k v)))
section
variable {X : Cx} {o i value : Expr} {pos pos' : Pos} {td ty tv : TE}
theorem ps_lput (ho : PE X o td) (hi : PE X i ty) (hv : PE X value tv) (hs : swapsWith value (some (.Subscript o i pos')) pos.line X.env = pure false) : PS X (.Assign [.Subscript o i pos'] value pos) (sLPut td ty tv) := by
  refine ⟨fun pins s σ H D I h => wpAny_Assign_Subscript (thn (hv.run pins s σ H _ I h) fun r s1 ⟨v, H1, I1, rv, q1⟩ => thn (ho.run pins s1 σ H1 _ I1 q1) fun u s2 ⟨x, H2, I2, rx, q2⟩ => thn (hi.run pins s2 σ H2 _ I2 q2) fun iv s3 ⟨y, H3, I3, ry, l, xs, k, ex, ey, hk, hl, q3⟩ => ?_) hs⟩
  subst ex ey
  obtain rfl : u = Value.ref l := rx
  obtain ⟨t, rfl⟩ : ∃ t, iv = Value.int (k : Int) t := ry
  obtain ⟨z, its, n, r2, e2, e3⟩ := I3.lstM hl
  refine put_at e3 (by omega) (by rw [sizeLine_eq] at z; omega) (by rw [List.size_toArray]; omega) ⟨σ, _, I3.lset (t' := s3.toks) (its' := its.set k r) (ys := xs.set k v) hl e3 ?_ (Vals.setAt r2 rv k) (by rw [List.length_set]; exact z), q3⟩
  show its.toArray.setIfInBounds ((k : Nat) : Int).toNat r = _
  rw [Int.toNat_natCast, List.setIfInBounds_toArray]
end
section
variable {X : Cx}
def sLput (i : Nat) (fk fv : Ex) : Sx := fun E K st => fv E st fun r1 st1 => opt (frz st1 r1) fun q => (∃ ys, q.2.ρ[i]? = some (.lst ys)) ∧ fk E q.2 fun r2 st2 => match r2, st2.ρ[i]? with
  | .v (.int k), some (.lst xs) => 0 ≤ k ∧ k < xs.length ∧ K.nx { st2 with ρ := st2.ρ.set i (.lst (xs.set k.toNat q.1)) }
  | _, _ => False
theorem RepL.setAt {φ F H} {v : V} {d : D} (q : Rep φ F H v d) : ∀ {vs : List V} {ds : List D} {k : Nat}, RepL φ F H vs ds → RepL φ F H (vs.set k v) (ds.set k d)
  | [], _, _, h => by cases h; exact .nil
  | _ :: _, _, 0, h => by
    cases h with
    | cons a b => exact .cons q b
  | _ :: _, _, k + 1, h => by
    cases h with
    | cons a b => exact .cons a (RepL.setAt q b)
theorem pxs_lput {i : Nat} {fk fv : Ex} {s : Stmt} {kx vx : Expr} (h : ∀ {ty tv : TE}, PE X kx ty → PE X vx tv → PS X s (sLPut (tVar i) ty tv)) (hk : PX X kx fk) (hv : PX X vx fv) : PXS X s (sLput i fk fv) := fun c l => psOf (h (hk c l) (hv c l)) fun D σ H ⟨W, st, H1, K, hH, P, ek, q⟩ =>
  ⟨W, st, H1, _, hH, P, q, fun r1 st1 v W1 H2 q1 s1 P1 rv => by
    obtain ⟨⟨y, st2⟩, e1, ⟨ys, hy⟩, q1⟩ := opt_ex q1
    obtain ⟨W2, s2, P2, r2, eL⟩ := frz_ok P1 e1 rv
    dsimp only at q1 P2 r2 hy
    obtain ⟨a, vs, e1', e2, e3⟩ := P2.own_lst hy
    rw [← eL]
    refine ⟨_, e1', W2, st2, H2, _, rfl, P2, q1, fun r3 st3 v3 W3 H3 q3 s3 P3 rv3 => ?_⟩
    split at q3
    · rename_i k xs hxs
      obtain ⟨k0, kn, q3⟩ := q3
      obtain ⟨a', vs', f1, f2, f3⟩ := P3.own_lst hxs
      rw [e1'] at f1
      cases f1
      have rv3' : Rp W3 H3 v3 (.int k) := rv3
      cases rv3'
      obtain ⟨n, rfl⟩ := Int.eq_ofNat_of_zero_le k0
      have so : slotOwns st3.ρ σ i a := ⟨_, hxs, rfl, e1'⟩
      refine ⟨a, vs', n, rfl, rfl, by have := f3.length; omega, P3.nol f2 rfl, ?_⟩
      rw [lock_upd (P3.lown (P3.sown i a so).1 (P3.sown i a so).2.1)]
      refine ek.1 _ _ _ _ q3 (P3.mutate (o' := .lst (xs.set ((n : Nat) : Int).toNat y)) hxs rfl e1' rfl fun fu => ⟨_, upd_same, ?_⟩) ((((P.aft s1).trans (P1.aft s2)).trans (P2.aft s3)).trans ⟨fut_mut W3 (P3.sown i a so).1 f2 rfl, [], rfl⟩)
      rw [Int.toNat_natCast]
      exact RepL.setAt ((r2.fut (P2.fut s3)).fut fu) (f3.fut fu)
    · exact q3.elim⟩
/-- xs.clear() -/
def sLclr (i : Nat) : Sx := fun _ K st => match st.ρ[i]? with
  | some (.lst _) => K.nx { st with ρ := st.ρ.set i (.lst []) }
  | _ => False
theorem pxs_lclr {i : Nat} {s : Stmt} (h : PS X s (tDrop (tBM0 X.K "list" rClear (tVar i)))) : PXS X s (sLclr i) := fun c l => psOf h fun Ds σ H ⟨W, st, H1, K, hH, P, ek, q⟩ => by
  subst hH
  unfold sLclr at q
  split at q
  · rename_i xs hx
    obtain ⟨a, vs, e1, e2, e3⟩ := P.own_lst hx
    have so : slotOwns st.ρ σ i a := ⟨_, hx, rfl, e1⟩
    have nl : W.L.lookup a = none := P.lown (P.sown i a so).1 (P.sown i a so).2.1
    refine ⟨_, e1, .inl ⟨rfl, vs, SqL.of (P.nol e2 rfl)⟩, a, vs, rfl, rfl, P.nol e2 rfl, ?_⟩
    rw [lock_upd nl]
    exact ek.1 _ _ _ _ q (P.mutate (u' := .lst []) (o' := .lst []) hx rfl e1 rfl fun fu => ⟨_, upd_same, .nil⟩) ⟨fut_mut W (P.sown i a so).1 e2 rfl, [], rfl⟩
  · exact q.elim
end
/-! != with what is of another class -/
section
variable {prog : Program} {w : World} {A : Around} {E : Value → Shared → Prop} {s : Shared} {K : PySem.W.Frag} {x C f : Addr} {ox : Obj} {od : Option Obj}
theorem neO_K {Q : Value → Shared → Prop} {b tb : Value} (hu : A.units + 1 < cLine) (X : K.In s.heap) (I : PySem.W.InstAt s.heap x ox C od) (hb : PySem.W.Looks (model prog w) s.heap (typeOf b) tb) (nf : PySem.W.notFirst K C tb = true)
    (hn : PySem.W.findIn K (.ref C) "__ne__" = some (some (.builtin "object.__ne__"))) (ho : PySem.W.subIn K (.ref C) (.type "object") = some true) (hs : PySem.W.findIn K (.ref C) "__eq__" = some (some (.ref f))) (hf : PySem.W.isFn K (.ref f) = true)
    (h : wpAny (model prog w) A.in1 (call (.ref f) [.ref x, b]) (fun v s' => ∃ r, v = .bool r ∧ Q (.bool (!r)) s') E s) : wpAny (model prog w) A (richCompare .NotEq (.ref x) b) Q E s := by
  have one : wpAny (model prog w) A (tryCompare (.ref x) "__ne__" b) (fun r s' => ∃ v, r = some v ∧ Q v s') E s := by
    unfold tryCompare
    refine wpAny_bind (ifBoundB_K X I hn F.cmp_object.ne.bind (wpAny_call (codeAny_call_builtin F.cmp_object.ne.plain F.cmpEntry_ne (PySem.W.check_slot F.cmpKind_ne F.cmpSplit_ne (I.type.andThen (PySem.W.looks_subIn X ho)) (F.cmpArgs_ne _ _) ?_))))
    refine objNe_K (A := A.in1) X I (by exact hu) hs hf (wpAny_mono h (fun u s' ⟨r, hr, hq⟩ => ?_) fun _ _ e => e)
    exact ⟨r, hr, wpAny_pure ⟨_, rfl, hq⟩⟩
  have fin : wpAny (model prog w) A (tryCompare (.ref x) "__ne__" b) (fun r s' => ∃ v, r = some v ∧ Q v s') E s := one
  unfold richCompare
  simp only [oneThing_ref]
  refine wpAny_holding (wpAny_bind (wpAny_cRoomFor (Nat.lt_of_succ_lt hu) ?_))
  rw [cmpInfo_NotEq]
  dsimp only
  refine wpAny_bind (I.type.here (wpAny_bind (hb.here ?_)))
  split
  · rename_i q
    have e : PySem.W.subIn K tb (.ref C) = some false := (Bool.or_eq_true_iff.mp nf).elim (fun z => by rw [beq_iff_eq.mp z] at q; simp at q) fun z => beq_iff_eq.mp z
    refine wpAny_bind ((PySem.W.looks_subIn X e).here ?_)
    simp only [Bool.false_eq_true, if_false]
    exact wpAny_bind (wpAny_mono fin (fun r s' ⟨u, hu', hq⟩ => by subst hu'; exact wpAny_pure hq) fun _ _ e => e)
  · refine wpAny_bind (wpAny_pure ?_)
    simp only [Bool.false_eq_true, if_false]
    exact wpAny_bind (wpAny_mono fin (fun r s' ⟨u, hu', hq⟩ => by subst hu'; exact wpAny_pure hq) fun _ _ e => e)
end
section
variable {X : Cx} {CX : CXT} {n : Nat} {f C : Addr} {fd : FuncData} {ps : List Str} {sp : Sp}
def rNeOwnN (C : Addr) (sp : Sp) : R2 := fun x y H Q => ∃ a, x = .ref a ∧ y = .non ∧ IsIns H a C ∧ sp [.ref a, .non] H (notQ Q) E0
theorem op_neOwnN (S : Spc X C "__eq__" f) (nf : PySem.W.notFirst X.K C (.type "NoneType") = true) (hn : PySem.W.findIn X.K (.ref C) "__ne__" = some (some (.builtin "object.__ne__"))) (ho : PySem.W.subIn X.K (.ref C) (.type "object") = some true) (F : FnOk X.prog X.w X.K X.mg X.base CX n f fd ps sp)
    (hr : Room (n + 1) X.A) (hb : Binds X.K fd ps []) (hx : Passes CX X E0) : OpR X (compareOp .NotEq) (rNeOwnN C sp) := by
  rintro pins s σ H x y v u Q I rx ry ⟨a, rfl, rfl, hi, q⟩
  cases rx
  obtain rfl : u = Value.none := ry
  obtain ⟨ox, od, J⟩ := ins_at I hi
  show wpAny (model X.prog X.w) X.A (richCompare .NotEq (.ref a) .none) (EP X pins σ Q) X.xe s
  refine neO_K (tb := .type "NoneType") (by have := hr.un; omega) I.kIn J (fun A Q E s k q => wpAny_pure q) nf hn ho S.at_ S.fn (wpAny_mono (run_at (vs := [.ref a, .non]) F hb hx ⟨hr.in1, rfl⟩ I (.cons rfl (.cons rfl .nil)) q) (fun r s' ⟨z, H', I', rz, b, hb', q'⟩ => ?_) fun _ _ e => e)
  subst hb'
  cases rz
  exact ⟨b, rfl, .bl (!b), H', I', rfl, q'⟩
end
section
variable {X : Cx} {C : Addr} {z : Nat × MF}
def xNeN (C : Addr) (z : Nat × MF) (f1 f2 : Ex) : Ox := fun E st Q => f1 E st fun r1 st1 => f2 E st1 fun r2 st2 => clsOf st2 r1 "__eq__" = some C ∧ r2 = .v .non ∧ cP z.1 z.2 E0k st2 [r1, r2] fun o st3 => opt (isB o) fun b => Q (.d (.bl (!b))) st3
theorem neN_go {f1 f2 : Ex} {c : C0} {σ : L2.St} {H : Hp} {Q : VK} (h : tO c (xNeN C z f1 f2) σ H Q) : tOp (rNeOwnN C (spM false z.1 z.2)) (tX c f1) (tX c f2) σ H Q := by
  obtain ⟨W, st, H1, Q0, hH, P, q, k⟩ := h
  refine ⟨W, st, H1, _, hH, P, q, fun r1 st1 v1 W1 H2 q1 s1 P1 rv1 => ⟨W1, st1, H2, _, rfl, P1, q1, fun r2 st2 v2 W2 H3 ⟨e1, e2, q2⟩ s2 P2 rv2 => ?_⟩⟩
  subst e2
  obtain ⟨p, dx, fs, rfl, hp, _⟩ := cls_at P2 (rv1.step P1 s2) e1
  have t2 : Rp W2 H3 v2 .non := rv2
  have go : spM false z.1 z.2 [.ref p, v2] (lockH W2.L H3) (notQ Q) E0 := cP0_ok E0 P2 (.cons (rv1.step P1 s2) (.cons rv2 .nil)) q2 fun o st3 v W3 H4 q3 s3 P3 ov => by
    obtain ⟨b, e3, q3⟩ := opt_ex q3
    have := ov_bl ov e3
    subst this
    exact ⟨b, rfl, k _ _ _ _ _ q3 ((s1.trans s2).trans s3) P3 (.bl _ : Rp W3 H4 _ (.bl _))⟩
  cases t2
  exact ⟨p, rfl, rfl, ⟨dx, fs, hp⟩, go⟩
theorem pxt_neN {a b ee : Expr} {f1 f2 : Ex} (h : ∀ {t1 t2 : TE}, PE X a t1 → PE X b t2 → PT X ee (tTest (tOp (rNeOwnN C (spM false z.1 z.2)) t1 t2))) (h1 : PX X a f1) (h2 : PX X b f2) : PXT X ee (xTO (xNeN C z f1 f2)) := pxt_O h h1 h2 fun c σ H Q q => neN_go q
end
end Q
/-! turns of a set comprehension with two sources -/
namespace Q
open PySem L2 PySem.Spec PyProof.Rows
section
variable {prog : Program} {w : World} {A : Around} {s : Shared} {elt t0 i0 t1 i1 : PySem.Expr} {ifs : List PySem.Expr} {scope : Scope} {pos : Pos} {it acc : Value} {env : Env}
/-- {elt for t0 in i0 for t1 in i1 if ..} -/
abbrev two (elt t0 i0 t1 i1 : PySem.Expr) (ifs : List PySem.Expr) (scope : Scope) (pos : Pos) : PySem.Expr := .SetComp elt [⟨t0, i0, [], 0⟩, ⟨t1, i1, ifs, 0⟩] scope pos
theorem turn_outer {M : Model} {E : Value → Shared → Prop} {Q : Fin → Shared → Prop} (hs : ∀ x, foldedSetIterable i1 env x = pure x)
    (h : wpAny M A (pyNext it) (fun r s1 => match r with
      | none => Q (.done .next) s1
      | some v => wpAny M A (letOwnedTupleGo t0 it v) (fun _ s2 => wpAny M A (assign t0 env v) (fun _ s3 => wpAny M A (eval i1 env) (fun x s4 => wpAny M A (pyIter x) (fun j s5 =>
          wpAny M A (runOwn (.compStart (two elt t0 i0 t1 i1 ifs scope pos) 1 j acc env) env) (fun _ s6 => Q (.again (.compLoop (two elt t0 i0 t1 i1 ifs scope pos) 0 it acc env)) s6) E s5) E s4) E s3) E s2) E s1) E s) :
    wpAny M A (compTurn (two elt t0 i0 t1 i1 ifs scope pos) 0 it acc env) Q E s := by
  have keep : ∀ (e : Value) (s : Shared), E e s → E e s := fun _ _ z => z
  unfold compTurn
  simp only [List.getElem?_cons_zero, bne_self_eq_false, Bool.false_eq_true, if_false]
  refine wpAny_bind (wpAny_standAt (wpAny_bind (wpAny_mono h (fun r s1 h1 => ?_) keep)))
  cases r with
  | none => exact wpAny_pure h1
  | some v =>
    refine wpAny_bind (wpAny_mono h1 (fun _ s2 h2 => wpAny_bind (wpAny_mono h2 (fun _ s3 h3 => wpAny_bind (wpAny_pure ?_)) keep)) keep)
    rw [if_pos rfl]
    refine wpAny_bind (wpAny_mono h3 (fun x s4 h4 => wpAny_bind (wpAny_standAt ?_)) keep)
    simp only [bne_self_eq_false, Bool.false_eq_true, if_false, hs]
    exact wpAny_bind (wpAny_pure (wpAny_bind (wpAny_holding (wpAny_mono h4 (fun j s5 h5 => wpAny_bind (wpAny_mono h5 (fun _ s6 h6 => wpAny_pure h6) keep)) keep))))
theorem turn_inner {E : Value → Shared → Prop} {Q : Fin → Shared → Prop}
    (h : wpAny (model prog w) A (pyNext it) (fun r s1 => match r with
      | none => Q (.done .next) s1
      | some v => wpAny (model prog w) A (letOwnedTupleGo t1 it v) (fun _ s2 => wpAny (model prog w) A (assign t1 env v) (fun _ s3 =>
          wpAny (model prog w) A (forIn ifs true fun c r => if r = true then do let ok ← isTrue c env (eval c env); pure (ForInStep.yield ok) else pure (ForInStep.yield r)) (fun ok s4 =>
            if ok = true then wpAny (model prog w) A (eval elt env) (fun x s5 => wpAny (model prog w) A (call (.builtin "set.add") [acc, x]) (fun _ s6 => Q (.again (.compLoop (two elt t0 i0 t1 i1 ifs scope pos) 1 it acc env)) s6) E s5) E s4
            else Q (.again (.compLoop (two elt t0 i0 t1 i1 ifs scope pos) 1 it acc env)) s4) E s3) E s2) E s1) E s) :
    wpAny (model prog w) A (compTurn (two elt t0 i0 t1 i1 ifs scope pos) 1 it acc env) Q E s := by
  have keep : ∀ (e : Value) (s : Shared), E e s → E e s := fun _ _ z => z
  unfold compTurn
  simp only [List.getElem?_cons_zero, List.getElem?_cons_succ, bne_self_eq_false, Bool.false_eq_true, if_false]
  refine wpAny_bind (wpAny_standAt (wpAny_bind (wpAny_mono h (fun r s1 h1 => ?_) keep)))
  cases r with
  | none => exact wpAny_pure h1
  | some v =>
    refine wpAny_bind (wpAny_mono h1 (fun _ s2 h2 => wpAny_bind (wpAny_mono h2 (fun _ s3 h3 => wpAny_bind (wpAny_mono h3 (fun ok s4 h4 => ?_) keep)) keep)) keep)
    cases ok with
    | false => exact wpAny_pure h4
    | true =>
      refine wpAny_bind (wpAny_bind (wpAny_mono h4 (fun x s5 h5 => wpAny_bind (wpAny_standAt (wpAny_bind (wpAny_mono h5 (fun _ s6 h6 => wpAny_pure (wpAny_pure h6)) keep)))) keep))
/-- the inner loop is entered -/
theorem inner_start {R : Result → Shared → Prop} (same : codeAny (model prog w) A (.compLoop (two elt t0 i0 t1 i1 ifs scope pos) 1 it acc env) R s)
    (again : wpAny (model prog w) A (pyIter it) (fun j s' => codeAny (model prog w) A (.compLoop (two elt t0 i0 t1 i1 ifs scope pos) 1 j acc env) R s') (notedBy (model prog w) A env fun x s' => R (.error x) s') s) :
    codeAny (model prog w) A (.compStart (two elt t0 i0 t1 i1 ifs scope pos) 1 it acc env) R s := by
  refine codeAny_of_tree (c := .compStart (two elt t0 i0 t1 i1 ifs scope pos) 1 it acc env) ?_
  show wpAny _ _ ((compStart (two elt t0 i0 t1 i1 ifs scope pos) 1 it acc env).onRaise fun x => do noteFrame x env; standAt theWindowsPlace) _ _ s
  refine wpAny_notedAt ?_
  unfold compStart
  show wpAny _ _ (ask >>= _) _ _ s
  refine wpAny_bind (wpAny_askSetting (wpAny_ite ?_))
  split
  · first | exact wpAny_pure ⟨rfl, same⟩ | exact wpAny_bind (wpAny_pure (wpAny_pure ⟨rfl, same⟩))
  · refine wpAny_bind (wpAny_rule ?_)
    have go := wpAny_mono again (Q' := fun j s' => wpAny (model prog w) A (PySem.again (.compLoop (two elt t0 i0 t1 i1 ifs scope pos) 1 j acc env)) (fun fin s'' => match fin with | .done f => R (.ok f) s'' | .again c' => c'.quiet = true ∧ codeAny (model prog w) A c' R s'') (notedBy (model prog w) A env fun x s' => R (.error x) s') s') (fun j s' z => wpAny_pure ⟨rfl, z⟩) fun _ _ z => z
    exact wpAny_bind (wpAny_standAt (wpAny_bind go))
end
section
variable {Y : Cx} {tg : Expr} {J : It} {it : Addr} {fp : List Addr} {tn : Nat → Heap → Prop}
/-- a walk between two of its turns -/
structure Held (Y : Cx) (fp : List Addr) (tn : Nat → Heap → Prop) (i : Nat) (pins : List (Addr × Obj)) (σ : L2.St) (H : Hp) (s : Shared) : Prop where
  inv : Inv Y pins σ H s
  here : tn i s.heap
  off : ∀ b ∈ fp, FpOk Y pins H b
theorem Held.mono {i : Nat} {pins : List (Addr × Obj)} {σ σ' : L2.St} {H : Hp} {s : Shared} (h : Held Y fp tn i pins σ H s) (l : σ'.length = σ.length) (m : ∀ (j : Nat) v, σ'[j]? = some (some v) → σ[j]? = some (some v)) : Held Y fp tn i pins σ' H s := ⟨h.inv.weak l m, h.here, h.off⟩
/-- one turn: the walk ends, or its item goes to the target and Go takes over; what Go leaves is held again -/
theorem walk_turn {g : TG} {i : Nat} {pins : List (Addr × Obj)} {σ : L2.St} {H : Hp} {s : Shared} {E : Value → Shared → Prop} {Dn Go : Shared → Prop} (T : Turn Y.prog Y.w Y.K tg J fp it tn) (hc : Y.calm = true) (quiet : Y.xe = fun _ _ => False) (pg : PG Y tg g)
    (h : Held Y fp tn i pins σ H s)
    (q : (J.stop i H ∧ ∀ s', Inv Y pins σ H s' → Dn s') ∨ (J.go i H ∧ ∀ x H', J.yld i H x H' → ∃ N : L2.St → Hp → Prop, g x σ H' N ∧ ∀ (σ2 : L2.St) (H2 : Hp), N σ2 H2 →
      ∀ (pl : List (Addr × Obj)) (s' : Shared), (∀ (σ3 : L2.St) (H3 : Hp) (s3 : Shared), Inv Y (pins ++ pl) σ3 H3 s3 → Held Y fp tn (i + 1) pins σ3 H3 s3) → Inv Y (pins ++ pl) σ2 H2 s' → Go s')) :
    wpAny (model Y.prog Y.w) Y.A (pyNext (.ref it)) (fun r s1 => match r with
      | none => Dn s1
      | some v => wpAny (model Y.prog Y.w) Y.A (letOwnedTupleGo tg (.ref it) v) (fun _ s2 => wpAny (model Y.prog Y.w) Y.A (assign tg Y.env v) (fun _ s3 => Go s3) E s2) E s1) E s := by
  rcases q with ⟨stop, dn⟩ | ⟨go, step⟩
  · exact thnF (T.done Y rfl rfl rfl hc i pins s σ H _ h.inv h.off h.here stop) fun r s1 ⟨e, I1⟩ => by
      subst e
      exact dn s1 I1
  · refine thnF (T.item Y rfl rfl rfl hc i pins s σ H _ h.inv h.off h.here go) fun r s1 ⟨v, e, more⟩ => ?_
    subst e
    refine thnF more fun _ s2 ⟨x, H2, I2, rv, hy, next, clear⟩ => ?_
    have off2 : ∀ b ∈ fp, FpOk Y pins H2 b := fun b hb => ⟨clear b hb, (h.off b hb).2⟩
    have again : ∀ (σ3 : L2.St) (H3 : Hp) (s3 : Shared), Inv Y (pins ++ pinsAt fp s2.heap) σ3 H3 s3 → Held Y fp tn (i + 1) pins σ3 H3 s3 := fun σ3 H3 s3 I3 => by
      have held : ∀ b ∈ fp, ∀ o, s2.heap.get? b = some o → s3.heap.get? b = some o ∧ H3 b = none := fun b hb o e =>
        have p := I3.pin (b, o) (List.mem_append_right Y.pn (List.mem_append_right pins (mem_pinsAt hb e)))
        ⟨p.1, p.2.1⟩
      refine ⟨I3.unpinned, T.keep (i + 1) s2.heap s3.heap next fun b hb o e => (held b hb o e).1, fun b hb => ?_⟩
      obtain ⟨o, e, _⟩ := T.obj (i + 1) s2.heap next b hb
      exact ⟨(held b hb o e).2, (h.off b hb).2⟩
    obtain ⟨N, gx, k⟩ := step x H2 hy
    have put := pg.run _ s2 σ H2 x v N (I2.pinned off2 (T.obj (i + 1) s2.heap next)) rv gx
    rw [quiet] at put
    exact thnF put fun _ s3 ⟨σ3, H3, I3, n⟩ => k σ3 H3 n _ s3 again I3
end
section
variable {X : Cx} {pins : List (Addr × Obj)} {σ : L2.St} {H : Hp} {s : Shared}
/-- the store of a comprehension's block, just entered -/
abbrev inside (s : Shared) (scope : Scope) : Shared := { s with heap := pushCells (s.heap.push { cls := .type "dict", data := .dict #[] }) scope.names }
abbrev insideEnv (X : Cx) (s : Shared) (scope : Scope) : Env := compEnvC scope (cellsFrom (s.heap.objs.size + 1) scope.names (cloFrom X.env.cells scope.names [])) s.heap.objs.size X.env
theorem inside_kp {s : Shared} {scope : Scope} {b : Addr} {o : Obj} (e : s.heap.get? b = some o) : (inside s scope).heap.get? b = some o := pushCells_keeps _ _ _ _ (Heap.get?_push_of_some _ e)
/-- in the block the state of the def around it stands -/
theorem inv_around {fp : List Addr} {scope : Scope} {env : Env} {p : List (Addr × Obj)} {σ' : L2.St} {H' : Hp} {s' : Shared} (I : Inv X pins σ H s) (off : ∀ b ∈ fp, FpOk X pins H b) (J : Inv (X.blk s H scope env fp) p σ' H' s') : Inv X pins σ H' s' :=
  I.call' (ch := fp) J.os J.base J.hok J.bare fun b hb => by
    obtain ⟨_, a, _, c, d, e⟩ := off b hb
    exact ⟨c, a, d, e⟩
theorem inv_offIn {fp : List Addr} {scope : Scope} {env : Env} {σ' : L2.St} {H' : Hp} {s' : Shared} (J : Inv (X.blk s H scope env fp) [] σ' H' s') (n : ∀ b ∈ fp, H' b = none) : ∀ b ∈ fp, FpOk (X.blk s H scope env fp) [] H' b := fun b hb =>
  ⟨n b hb, (J.ok.exf b hb).1, J.ok.exfs b hb, .inl hb, fun x c => (J.ok.exf b hb).2 x c, fun q hq => by cases hq⟩
end
end Q
namespace L2
open PySem PySem.Spec PyProof.Rows
/-- an empty set at D -/
def Em (w : World) (D : Addr) : HO := SetO w D (fun j => decide (j ∈ ([] : List Int))) 0
theorem SetR.atNil {w : World} {h : Heap} {a : Addr} (ho : h.get? a = some { cls := .type "set", dict := none, data := .set #[] 0 (.fresh 0 0 (!w.params.followText "set-order")) }) : SetR w h a (fun j => decide (j ∈ ([] : List Int))) 0 := setR_new_at (ns := []) ho
theorem addI_ok {X : Cx} {pins : List (Addr × Obj)} {σ : L2.St} {H : Hp} {s : Shared} {E : Value → Shared → Prop} {D : Addr} {S : Int → Bool} {n : Nat} {y : Int} {t : Tok} {Q : Value → Shared → Prop} (I : Inv X pins σ H s) (hD : H D = some (SetO X.w D S n)) (room : n + 1 < scanBound)
    (h : ∀ s', Inv X pins σ (upd H D (SetO X.w D (fun j => S j || decide (j = y)) (if S y = true then n else n + 1))) s' → Q .none s') : wpAny (model X.prog X.w) X.A (call (.builtin "set.add") [.ref D, .int y t]) Q E s := by
  refine setR_add (setO_get I hD) room fun g sb new => ?_
  obtain ⟨o, _, _, _, ho, _⟩ := id new
  exact h _ (I.write (e := D) (t' := s.toks + 1) (by rw [hD]; trivial) (.inl rfl) (fun b u hb hu => (sb.2 b hb).trans hu) ⟨o, ho⟩ (setO_new new))
/-- a walk by a measure: what ends it, what one item asks for (Nx: the walk goes on) -/
abbrev Along (J : It) (Dn : Hp → Prop) (Step : V → Hp → (Hp → Prop) → Prop) (H0 : Hp) : Prop := ∃ W : Nat → Nat → Hp → Prop, (∃ m, W 0 m H0) ∧ ∀ i m H, W i m H →
  (J.stop i H ∧ Dn H) ∨ (J.go i H ∧ ∃ Nx : Hp → Prop, (∀ H', Nx H' → ∃ m', m' < m ∧ W (i + 1) m' H') ∧ ∀ x H', J.yld i H x H' → Step x H' Nx)
/-- one number more in the set at D -/
abbrev More (w : World) (D : Addr) (Nx : Hp → Prop) : VK := fun y G => ∃ (c : Int) (S : Int → Bool) (n : Nat), y = .int c ∧ G D = some (SetO w D S n) ∧ n + 1 < scanBound ∧ Nx (upd G D (SetO w D (fun j => S j || decide (j = c)) (if S c = true then n else n + 1)))
/-- {e for g in wi (if tt) for g1 in wi1 if tt1}: vs the block's names, vs1 those of the second target -/
def tSc2 (w : World) (wi : TI) (g : TG) (tt : TT) (wi1 : TI) (g1 : TG) (tt1 : TT) (te : TE) (vs vs1 : List Nat) : TE := fun σ H Q => wi σ H fun J G => ∀ D, G D = none →
  Along J (fun G => Q (.ref D) G) (fun x G Nx => g x (wipe σ vs) G fun τ G => wipe τ vs = wipe σ vs ∧ tt τ G fun b G => if b = true then
    wi1 τ G fun J1 G => Along J1 Nx (fun y G Nx1 => g1 y (wipe τ vs1) G fun υ G => wipe υ vs1 = wipe τ vs1 ∧ tt1 υ G fun b G => if b = true then te υ G (More w D Nx1) else Nx1 G) G
    else Nx G) (upd G D (Em w D))
end L2
namespace Q
open PySem L2 PySem.Spec PyProof.Rows
section
variable {X : Cx} {pins : List (Addr × Obj)} {σ : L2.St} {H : Hp} {s : Shared}
theorem inv_newSet (I : Inv X pins σ H s) : Inv X pins σ (upd H s.heap.objs.size (Em X.w s.heap.objs.size)) { s with heap := s.heap.push { cls := .type "set", dict := none, data := .set #[] 0 (.fresh 0 0 (!X.w.params.followText "set-order")) } } :=
  I.laid (t' := s.toks) (fun _ _ e => Heap.get?_push_of_some _ e) (Nat.le_refl _) (setO_new (SetR.atNil (Heap.get?_push_size _ rfl)))
theorem inner_enter {prog : Program} {w : World} {K : PySem.W.Frag} {A : Around} {R : Result → Shared → Prop} {elt t0 i0 t1 i1 tg : PySem.Expr} {ifs : List PySem.Expr} {scope : Scope} {pos : Pos} {acc : Value} {env : Env} {J : It} {it : Addr} {fp : List Addr} {tn : Nat → Heap → Prop} (T : Turn prog w K tg J fp it tn) (st : tn 0 s.heap)
    (lp : codeAny (model prog w) A (.compLoop (two elt t0 i0 t1 i1 ifs scope pos) 1 (.ref it) acc env) R s) : codeAny (model prog w) A (.compStart (two elt t0 i0 t1 i1 ifs scope pos) 1 (.ref it) acc env) R s := inner_start lp (T.self _ 0 _ _ _ st lp)
theorem wipe_sub {σ τ : L2.St} {vs vs1 : List Nat} (same : wipe τ vs = wipe σ vs) (sub : ∀ i ∈ vs1, i ∈ vs) {j : Nat} {v : V} (e : (wipe σ vs)[j]? = some (some v)) : (wipe τ vs1)[j]? = some (some v) := by
  rw [← same] at e
  obtain ⟨e1, n⟩ := wipe_some e
  rw [wipe_get fun z => n (sub j z)]
  exact e1
theorem pe_sc2 {el tg0 src0 tg1 src1 : PySem.Expr} {fs1 : List PySem.Expr} {scp : Scope} {mine : List (Str × Nat)} {vs1 : List Nat} {pp : Pos} {wi wi1 : TI} {g g1 : TG} {tt1 : TT} {te : TE} (hc : X.calm = true) (nodN : X.N.Nodup) (hi : PI X tg0 src0 wi) (ok : BlkOk X.N X.env.scope scp mine) (sub1 : ∀ i ∈ vs1, i ∈ mine.map (·.2))
    (hg : ∀ (s : Shared) (H : Hp) (C : Addr) (cl : List (Str × Addr)) (fp : List Addr), PG (X.blk s H scp (compEnvC scp cl C X.env) fp) tg0 g) (_ : ∀ (s : Shared) (H : Hp) (C : Addr) (cl : List (Str × Addr)) (fp : List Addr), PTs (X.blk s H scp (compEnvC scp cl C X.env) fp) [] tYes)
    (hi1 : ∀ (s : Shared) (H : Hp) (C : Addr) (cl : List (Str × Addr)) (fp : List Addr), PI (X.blk s H scp (compEnvC scp cl C X.env) fp) tg1 src1 wi1) (hg1 : ∀ (s : Shared) (H : Hp) (C : Addr) (cl : List (Str × Addr)) (fp : List Addr), PG (X.blk s H scp (compEnvC scp cl C X.env) fp) tg1 g1)
    (ht1 : ∀ (s : Shared) (H : Hp) (C : Addr) (cl : List (Str × Addr)) (fp : List Addr), PTs (X.blk s H scp (compEnvC scp cl C X.env) fp) fs1 tt1) (he : ∀ (s : Shared) (H : Hp) (C : Addr) (cl : List (Str × Addr)) (fp : List Addr), PE (X.blk s H scp (compEnvC scp cl C X.env) fp) el te)
    (hs : ∀ x, foldedSetIterable src0 X.env x = pure x) (hs1 : ∀ ev x, foldedSetIterable src1 ev x = pure x) :
    PE X (.SetComp el [⟨tg0, src0, [], 0⟩, ⟨tg1, src1, fs1, 0⟩] scp pp) (tSc2 X.w wi g tYes wi1 g1 tt1 te (mine.map (·.2)) vs1) := by
  refine ⟨fun pins s σ H Q I h => ?_⟩
  rw [PpSet.eval_SetComp]
  have fr : ∀ y ∈ scp.names, y.2 = .free → ∃ c, X.env.cells.lookup y.1 = some c := fun y hy e => I.ok.has _ (ok.free y hy e)
  refine wpAny_comprehension_free (use := none) rfl hs (closure_ok fr) ok.kind (fun y hy e => (ok.uniq y hy).trans (congrArg some e)) (thn (hi.run pins s σ H _ I h) fun v s1 w1 => thn w1 fun itv s2 got => ?_)
  obtain ⟨it, fp, tn, J, H2, rfl, I2, T, a2, f2, q⟩ := got
  refine PpSet.newSet_ok (newEnv_comp ?_)
  obtain ⟨W, ⟨m0, w0⟩, turn⟩ := q s2.heap.objs.size (I2.hok.fresh (Nat.le_refl _))
  have I3 := inv_newSet I2
  generalize es3 : ({ s2 with heap := s2.heap.push { cls := .type "set", dict := none, data := .set #[] 0 (.fresh 0 0 (!X.w.params.followText "set-order")) } } : Shared) = s3 at I3
  generalize eH3 : upd H2 s2.heap.objs.size (Em X.w s2.heap.objs.size) = H3 at I3 w0
  have kp3 : ∀ b o, s2.heap.get? b = some o → s3.heap.get? b = some o := fun b o e => by rw [← es3]; exact Heap.get?_push_of_some _ e
  have low : ∀ b ∈ fp, b < s2.heap.objs.size := fun b hb => (T.obj 0 _ a2 b hb).elim fun o z => Heap.lt_size z.1
  have f3 : ∀ b ∈ fp, FpOk X pins H3 b := fun b hb => ⟨by rw [← eH3, upd_ne (Nat.ne_of_lt (low b hb))]; exact (f2 b hb).1, (f2 b hb).2⟩
  have a3 : tn 0 (inside s3 scp).heap := T.keep 0 _ _ a2 fun b hb o e => inside_kp (kp3 b o e)
  have I4 := block_start I3 ok nodN fun b hb => ⟨f3 b hb, Nat.lt_of_lt_of_le (low b hb) (by rw [← es3]; show _ ≤ (Heap.push _ _).objs.size; rw [Heap.size_push]; exact Nat.le_succ _)⟩
  have pg := hg s3 H3 s3.heap.objs.size (cellsFrom (s3.heap.objs.size + 1) scp.names (cloFrom X.env.cells scp.names [])) fp
  have pi1 := hi1 s3 H3 s3.heap.objs.size (cellsFrom (s3.heap.objs.size + 1) scp.names (cloFrom X.env.cells scp.names [])) fp
  have pg1 := hg1 s3 H3 s3.heap.objs.size (cellsFrom (s3.heap.objs.size + 1) scp.names (cloFrom X.env.cells scp.names [])) fp
  have pt1 := ht1 s3 H3 s3.heap.objs.size (cellsFrom (s3.heap.objs.size + 1) scp.names (cloFrom X.env.cells scp.names [])) fp
  have pe := he s3 H3 s3.heap.objs.size (cellsFrom (s3.heap.objs.size + 1) scp.names (cloFrom X.env.cells scp.names [])) fp
  have blk : codeAny (model X.prog X.w) X.A (.compLoop (two el tg0 src0 tg1 src1 fs1 scp pp) 0 (.ref it) (.ref s2.heap.objs.size) (insideEnv X s3 scp)) (compPost (model X.prog X.w) X.A X.xe none (EP X pins σ Q) (.ref s2.heap.objs.size) s3.heap.objs.size) (inside s3 scp) := by
    refine codeAny_loop rfl (fun n s' => ∃ i H', Held (X.blk s3 H3 scp (insideEnv X s3 scp) fp) fp tn i [] (wipe σ (mine.map (·.2))) H' s' ∧ W i n H') (fun n s5 ⟨i, H5, held, w5⟩ => ?_) m0 ⟨0, H3, ⟨I4, a3, inv_offIn I4 fun b hb => (f3 b hb).1⟩, w0⟩
    show wpAny _ X.A ((compTurn (two el tg0 src0 tg1 src1 fs1 scp pp) 0 (.ref it) (.ref s2.heap.objs.size) (insideEnv X s3 scp)).onRaise (fun x => do noteFrame x (insideEnv X s3 scp); theTreesLotGoes x)) _ _ s5
    refine wpAny_noted (turn_outer (hs1 _) ?_)
    refine walk_turn (Y := X.blk s3 H3 scp (insideEnv X s3 scp) fp) T hc rfl pg held ?_
    rcases turn i n H5 w5 with ⟨stop, fin⟩ | ⟨go, Nx, less, step⟩
    · refine .inl ⟨stop, fun s6 I6 => ?_⟩
      obtain ⟨m, ns, _⟩ := I6.loc
      have n5 : H5 s3.heap.objs.size = none := I6.free
      obtain ⟨o1, o2, o3, o4, o5, o6⟩ := I3.fpOk (Nat.le_refl _) n5
      exact ⟨m, ns, fun h' sb => ⟨.ref s2.heap.objs.size, H5, (inv_around I3 f3 I6).turned (t' := s6.toks) (fun b o ne e => (sb.2 b ne).trans e) o1 o2 o4 o5 o6, rfl, fin⟩⟩
    · refine .inr ⟨go, fun x H6 y => ⟨_, step x H6 y, fun σ7 H7 ⟨same, more⟩ pl s7 back I7 => ?_⟩⟩
      simp only [tYes, if_true] at more
      have len7 : σ7.length = (wipe σ (mine.map (·.2))).length := by rw [← same, wipe_length]
      refine wpAny_mono (pi1.run _ s7 σ7 H7 _ I7 more) (fun v s8 w8 => wpAny_mono w8 (fun itv s9 got => ?_) fun _ _ z => z.elim) fun _ _ z => z.elim
      obtain ⟨it1, fp1, tn1, J1, H9, rfl, I9, T1, a9, f9, W1, ⟨m1, w1⟩, turn1⟩ := got
      refine wpAny_runOwn ?_
      refine inner_enter T1 a9 ?_
      refine codeAny_loop rfl (fun k s' => ∃ j H', Held (X.blk s3 H3 scp (insideEnv X s3 scp) fp) fp1 tn1 j ([] ++ pl) (wipe σ7 vs1) H' s' ∧ W1 j k H') (fun k s10 ⟨j, H10, held1, w10⟩ => ?_) m1 ⟨0, H9, ⟨I9.weak (wipe_length _ _) fun j v e => (wipe_some e).1, a9, f9⟩, w1⟩
      show wpAny _ X.A ((compTurn (two el tg0 src0 tg1 src1 fs1 scp pp) 1 (.ref it1) (.ref s2.heap.objs.size) (insideEnv X s3 scp)).onRaise (fun x => do noteFrame x (insideEnv X s3 scp); theTreesLotGoes x)) _ _ s10
      refine wpAny_noted (turn_inner ?_)
      refine walk_turn (Y := X.blk s3 H3 scp (insideEnv X s3 scp) fp) T1 hc rfl pg1 held1 ?_
      rcases turn1 j k H10 w10 with ⟨stop1, nx⟩ | ⟨go1, Nx1, less1, step1⟩
      · refine .inl ⟨stop1, fun s11 I11 => ?_⟩
        obtain ⟨m, lt, w11⟩ := less _ nx
        exact ⟨rfl, m, lt, i + 1, _, (back _ _ _ I11).mono (by rw [wipe_length σ7, len7]) (fun j v e => wipe_sub same sub1 e), w11⟩
      · refine .inr ⟨go1, fun y2 H11 y3 => ⟨_, step1 y2 H11 y3, fun σ12 H12 ⟨same1, more1⟩ pl1 s12 back1 I12 => ?_⟩⟩
        have again : ∀ {H13 : Hp} {s13 : Shared}, Inv (X.blk s3 H3 scp (insideEnv X s3 scp) fp) (([] ++ pl) ++ pl1) σ12 H13 s13 → Nx1 H13 → ∃ m, m < k ∧ ∃ j H', Held (X.blk s3 H3 scp (insideEnv X s3 scp) fp) fp1 tn1 j ([] ++ pl) (wipe σ7 vs1) H' s13 ∧ W1 j m H' := fun {H13 s13} I13 nx => by
          obtain ⟨m, lt, w13⟩ := less1 _ nx
          refine ⟨m, lt, j + 1, _, (back1 _ _ _ I13).mono ?_ (fun j v e => (wipe_some (by rw [same1]; exact e)).1), w13⟩
          rw [← same1, wipe_length]
        refine thnF (pt1.run _ s12 σ12 H12 _ I12 more1) fun b s13 ⟨H13, I13, r13⟩ => ?_
        cases b with
        | false => exact ⟨rfl, again I13 r13⟩
        | true =>
          refine thnF (pe.run _ s13 σ12 H13 _ I13 r13) fun v s14 ⟨u, H14, I14, rv, c, S, n1, ey, eD, room, nx⟩ => ?_
          subst ey
          obtain ⟨tk, rfl⟩ : ∃ tk, v = Value.int c tk := rv
          exact addI_ok (X := X.blk s3 H3 scp (insideEnv X s3 scp) fp) I14 eD room fun s15 I15 => ⟨rfl, again I15 nx⟩
  exact PpSet.codeAny_compStart_set blk (T.self X.A 0 _ _ _ a3 blk)
end
end Q
/-! sorted({e for .. in .. for .. in .. if ..}), sorted(set(..)), list(range(..)) over plain states -/
namespace Q
open PySem L2 PySem.Spec PyProof.Rows NdefX
def tSortSc2 (w : World) (wi : TI) (g : TG) (wi1 : TI) (g1 : TG) (tt1 : TT) (te : TE) (vs vs1 : List Nat) : TE := fun σ H Q => tSc2 w wi g tYes wi1 g1 tt1 te vs vs1 σ H fun x H1 => rSortedSet w [x] H1 Q
theorem pe_sortSc2 {X : Cx} {el tg0 src0 tg1 src1 : Expr} {fs1 : List Expr} {scp : Scope} {mine : List (Str × Nat)} {vs1 : List Nat} {pp p q : Pos} {wi wi1 : TI} {g g1 : TG} {tt1 : TT} {te : TE} (hc : X.calm = true) (hg0 : Gl X "sorted") (hm0 : X.mg "sorted" = none) (h : PE X (.SetComp el [⟨tg0, src0, [], 0⟩, ⟨tg1, src1, fs1, 0⟩] scp pp) (tSc2 X.w wi g tYes wi1 g1 tt1 te (mine.map (·.2)) vs1))
    (na : starEach [.SetComp el [⟨tg0, src0, [], 0⟩, ⟨tg1, src1, fs1, 0⟩] scp pp] X.env = (false, eval (.SetComp el [⟨tg0, src0, [], 0⟩, ⟨tg1, src1, fs1, 0⟩] scp pp) X.env) :: starEach [] X.env := by rfl) :
    PE X (.Call (.Name "sorted" p) [.SetComp el [⟨tg0, src0, [], 0⟩, ⟨tg1, src1, fs1, 0⟩] scp pp] [] q) (tSortSc2 X.w wi g wi1 g1 tt1 te (mine.map (·.2)) vs1) :=
  ⟨fun pins s σ H Q I q0 => Call_ (ld_blt I hg0 hm0 boot_sorted (callWith_builtin1 (args_cons (thn (h.run pins s σ H _ I q0) fun v s1 ⟨x, H1, I1, r1, q1⟩ => args_nil (cr_sortedSet hc pins _ σ _ [x] _ Q I1 (.cons r1 .nil) q1)) na) na rfl))⟩
def scIn (tg1 : Tg) (tt1 : Tx) (fe : Ex) (vs1 : List Nat) (k : List Int → Ps → Prop) : List D → List Int → Ps → Prop
  | [], acc, st => k acc (st.wp vs1)
  | e :: es, acc, st => tg1 e (st.wp vs1) fun st2 => tt1 E0k st2 fun b st3 => if b = true then fe E0k st3 fun r st4 => ∃ n, r = .v (.int n) ∧ acc.length < 60 ∧ scIn tg1 tt1 fe vs1 k es (acc ++ [n]) st4 else scIn tg1 tt1 fe vs1 k es acc st3
def scOut (tg : Tg) (fi1 : Ix) (tg1 : Tg) (tt1 : Tx) (fe : Ex) (vs vs1 : List Nat) (Q : List Int → Ps → Prop) : List D → List Int → Ps → Prop
  | [], acc, st => Q acc (st.wp vs)
  | d :: ds, acc, st => tg d (st.wp vs) fun st2 => fi1 E0k st2 fun es st3 => scIn tg1 tt1 fe vs1 (fun acc' st' => scOut tg fi1 tg1 tt1 fe vs vs1 Q ds acc' st') es acc st3
def xSortSc2 (fi : Ix) (tg : Tg) (fi1 : Ix) (tg1 : Tg) (tt1 : Tx) (fe : Ex) (vs vs1 : List Nat) : Ox := fun E st Q => fi E st fun ds st1 => scOut tg fi1 tg1 tt1 fe vs vs1 (fun acc st' => acc.length ≤ 60 ∧ ∀ ys : List Int, ys.Pairwise (· < ·) → (∀ k, k ∈ ys ↔ k ∈ acc) → Q (.lst (ys.map D.int)) st') ds [] st1
def iAny (c : C0) (fi : Ix) : TI := fun σ H R => ∃ D, tXI (c.blk D) fi σ H R
theorem pi_anyB {X : Cx} {tge iter : Expr} {fi : Ix} (c : C0) (h : PXI X tge iter fi) : PI X tge iter (iAny c fi) := ⟨fun pins s σ H R I ⟨D, q⟩ => (h (c.blk D) (lk_blk c D)).run pins s σ H R I q⟩
theorem fut_mutX (W : Wd) {H : Hp} {a : Addr} {u u' : HO} (hF : ¬ W.F a) (hu : H a = some u) (hm : ∀ xs, u ≠ .tup xs) : Fut W.φ W.F H W.φ W.F (upd H a u') :=
  ⟨fun _ _ e => e, fun _ h => h, fun b o hb e => by rw [upd_ne (fun z => hF (by rw [← z]; exact hb))]; exact e, fun b xs e => by
    rw [upd_ne (fun z => by subst z; rw [hu] at e; cases e; exact hm _ rfl)]
    exact e⟩
theorem Pre.mutX {c : C0} {W : Wd} {st : Ps} {σ : L2.St} {H : Hp} (P : Pre c W st σ H) {a : Addr} {u u' : HO} (hR : c.R a) (h0 : c.H0 a = none) (hu : H a = some u) (hm : ∀ xs, u ≠ .tup xs) : Pre c W st σ (upd H a u') ∧ Fut W.φ W.F H W.φ W.F (upd H a u') := by
  obtain ⟨k1, k2, _, k4⟩ := P.rsv a hR
  have f := fut_mutX W (u' := u') k1 hu hm
  have ne : ∀ {b : Addr} {o : HO}, c.H0 b = some o → b ≠ a := fun e z => by rw [z, h0] at e; cases e
  refine ⟨⟨P.hrw, ⟨P.step.cells, P.step.sub, fun b ob e n => by rw [upd_ne (ne e)]; exact P.step.keep b ob e n, fun b xs e => by rw [upd_ne (ne e)]; exact P.step.tups b xs e, fun b e => upd_dom (P.step.dom b e), P.step.ownNew, P.step.locks, P.step.ownOld⟩, P.new, ⟨fun b hb => ?_, P.base.len, fun n b x w q1 q2 q3 => ?_, P.base.apart, P.base.ownF, P.base.lN, fun b ob e => ?_⟩, P.slen, fun j x e => ?_, P.sown, P.sapart, fun b hb => ?_, P.hvw, P.own0⟩, f⟩
  · obtain ⟨w, q⟩ := P.base.fdom b hb
    exact ⟨w, f.keep b w hb q⟩
  · refine (P.base.cell n b x w q1 q2 q3).fut f fun y hy => ?_
    rw [upd_ne]
    intro z
    subst z
    exact k2 ⟨w, List.mem_of_getElem? q3, hy⟩
  · obtain ⟨q1, w, q2, q3⟩ := P.base.lF b ob e
    refine ⟨q1, w, ?_, q3⟩
    rw [upd_ne (fun z => by subst z; exact q1.elim k1 fun y => k2 y.2)]
    exact q2
  · refine (P.slot j x e).fut f fun b e1 e2 => ?_
    rw [upd_ne]
    intro z
    subst z
    exact k4 j ⟨x, e, e2, join_ref e1⟩
  · obtain ⟨q1, q2, ⟨w, q3⟩, q4⟩ := P.rsv b hb
    refine ⟨q1, q2, ?_, q4⟩
    by_cases z : b = a
    · rw [z]; exact ⟨_, upd_same⟩
    · exact ⟨w, by rw [upd_ne z]; exact q3⟩
def SetAt (w : World) (H : Hp) (D : Addr) (acc : List Int) : Prop := ∃ n, n ≤ acc.length ∧ H D = some (SetO w D (fun j => decide (j ∈ acc)) n)
theorem setO_tup {w : World} {D : Addr} {S : Int → Bool} {n : Nat} : ∀ xs, SetO w D S n ≠ .tup xs := fun xs e => by unfold SetO at e; cases e
theorem SetAt.add {w : World} {H : Hp} {D : Addr} {acc : List Int} {n : Nat} (hn : n ≤ acc.length) (k : Int) : SetAt w (upd H D (SetO w D (fun j => decide (j ∈ acc) || decide (j = k)) (if decide (k ∈ acc) = true then n else n + 1))) D (acc ++ [k]) := by
  refine ⟨if decide (k ∈ acc) = true then n else n + 1, by rw [List.length_append, List.length_singleton]; split <;> omega, ?_⟩
  rw [upd_same]
  have : (fun j => decide (j ∈ acc) || decide (j = k)) = fun j => decide (j ∈ acc ++ [k]) := by
    funext j
    rw [Bool.eq_iff_iff]
    simp
  rw [this]
theorem RepL.ints {φ F H} : ∀ ys : List Int, RepL φ F H (ys.map V.int) (ys.map D.int)
  | [] => .nil
  | _ :: ys => .cons (.int _) (RepL.ints ys)
theorem sc2_go {w : World} {c : C0} {fi fi1 : Ix} {tg tg1 : Tg} {tt1 : Tx} {fe : Ex} {vs vs1 is is1 : List Nat} {σ : L2.St} {H : Hp} {Q : VK} (hv : ∀ i ∈ is, i ∈ vs) (hv1 : ∀ i ∈ is1, i ∈ vs1) (hvv : ∀ i ∈ vs1, i ∈ vs) (h : tO c (xSortSc2 fi tg fi1 tg1 tt1 fe vs vs1) σ H Q) :
    tSortSc2 w (tXI c fi) (gAny c tg is) (iAny c fi1) (gAny c tg1 is1) (tAny c tt1) (eAny c fe) vs vs1 σ H Q := by
  obtain ⟨W, st, H1, Q0, hH, P, q, k⟩ := h
  refine ⟨W, st, H1, _, hH, P, q, fun ds st1 W1 H2 J q1 s1 P1 go => fun D hD => ?_⟩
  obtain ⟨d1, d2⟩ := P1.lnone' hD
  obtain ⟨sD, PD, f1, f2, f3, f4, f5⟩ := P1.fresh (o := Em w D) d1
  have PB : Pre (c.blk D) W1 (st1.wp vs) σ (upd H2 D (Em w D)) := (PD.res ⟨f1, f2, ⟨_, upd_same⟩, f4⟩).wp rfl rfl rfl rfl fun _ z => z
  generalize hK : (fun (acc : List Int) (st' : Ps) => acc.length ≤ 60 ∧ ∀ ys : List Int, ys.Pairwise (· < ·) → (∀ k, k ∈ ys ↔ k ∈ acc) → Q0 (.lst (ys.map _root_.Q.D.int)) st') = KQ at q1
  refine ⟨fun i m Hh => m = ds.length - i ∧ i ≤ ds.length ∧ ∃ W2 st2 H3 acc, Hh = lockH W2.L H3 ∧ Pre (c.blk D) W2 (st2.wp vs) σ H3 ∧ Step c.rw W1 H2 W2 H3 ∧ SetAt w H3 D acc ∧ scOut tg fi1 tg1 tt1 fe vs vs1 KQ (ds.drop i) acc st2,
    ⟨ds.length, by simp, Nat.zero_le _, W1, st1, _, [], lock_upd d2, PB, sD, ⟨0, Nat.le_refl _, upd_same⟩, q1⟩, ?_⟩
  rintro i m Hh ⟨rfl, hi, W2, st2, H3, acc, rfl, P2, s2, hx, q2⟩
  obtain ⟨g1, g2⟩ := go (c.blk D).R W2 _ σ H3 (P2.ctx rfl rfl rfl fun _ z => z) (P1.aft s2)
  by_cases hlt : i < ds.length
  · obtain ⟨g3, g4⟩ := g1 i ds[i] (List.getElem?_eq_getElem hlt)
    rw [List.drop_eq_getElem_cons hlt] at q2
    refine .inr ⟨g3, fun H' => i + 1 ≤ ds.length ∧ ∃ W2 st2 H3 acc, H' = lockH W2.L H3 ∧ Pre (c.blk D) W2 (st2.wp vs) σ H3 ∧ Step c.rw W1 H2 W2 H3 ∧ SetAt w H3 D acc ∧ scOut tg fi1 tg1 tt1 fe vs vs1 KQ (ds.drop (i + 1)) acc st2, fun H' z => ⟨ds.length - (i + 1), by omega, rfl, z⟩, fun x H' y => ?_⟩
    obtain ⟨H4, rfl, s4, P4, r4⟩ := YD.ok P2 (g4 x H' y)
    obtain ⟨n3, l3, e3⟩ := hx
    have x4 := blk_at P2 s4 e3
    refine ⟨D, W2, st2.wp vs, H4, _, _, rfl, P4.sig (wipe_in fun _ z => z), r4, q2, fun st5 σ5 q5 P5 w5 => ?_⟩
    have e5 : wipe σ5 vs = wipe σ vs := (w5 vs hv).trans (wipe_in fun _ z => z)
    refine ⟨e5, ?_⟩
    unfold tYes
    simp only [↓reduceIte]
    refine ⟨D, W2, st5, H4, _, rfl, P5, q5, fun es st6 W6 H6 J1 q6 s6 P6 go6 => ?_⟩
    have x6 := blk_at P5 s6 x4
    refine ⟨fun j m Hh => m = es.length - j ∧ j ≤ es.length ∧ ∃ W7 st7 H7 acc, Hh = lockH W7.L H7 ∧ Pre (c.blk D) W7 (st7.wp vs1) σ5 H7 ∧ Step c.rw W1 H2 W7 H7 ∧ Aft W6 H6 W7 H7 ∧ SetAt w H7 D acc ∧ scIn tg1 tt1 fe vs1 (fun acc' st' => scOut tg fi1 tg1 tt1 fe vs vs1 KQ (ds.drop (i + 1)) acc' st') (es.drop j) acc st7,
      ⟨es.length, by simp, Nat.zero_le _, W6, st6, H6, acc, rfl, P6.wp rfl rfl rfl rfl fun _ z => z, (s2.trans s4).trans s6, P6.aft (.refl _ _ _), ⟨n3, l3, x6⟩, q6⟩, ?_⟩
    rintro j m Hh ⟨rfl, hj, W7, st7, H7, acc7, rfl, P7, s7, A7, ⟨n7, l7, e7⟩, q7⟩
    obtain ⟨b1, b2⟩ := go6 (c.blk D).R W7 _ σ5 H7 (P7.ctx rfl rfl rfl fun _ z => z) A7
    by_cases jlt : j < es.length
    · obtain ⟨b3, b4⟩ := b1 j es[j] (List.getElem?_eq_getElem jlt)
      rw [List.drop_eq_getElem_cons jlt] at q7
      refine .inr ⟨b3, fun H' => j + 1 ≤ es.length ∧ ∃ W7 st7 H7 acc, H' = lockH W7.L H7 ∧ Pre (c.blk D) W7 (st7.wp vs1) σ5 H7 ∧ Step c.rw W1 H2 W7 H7 ∧ Aft W6 H6 W7 H7 ∧ SetAt w H7 D acc ∧ scIn tg1 tt1 fe vs1 (fun acc' st' => scOut tg fi1 tg1 tt1 fe vs vs1 KQ (ds.drop (i + 1)) acc' st') (es.drop (j + 1)) acc st7, fun H' z => ⟨es.length - (j + 1), by omega, rfl, z⟩, fun x H' y => ?_⟩
      obtain ⟨H8, rfl, s8, P8, r8⟩ := YD.ok P7 (b4 x H' y)
      have x8 := blk_at P7 s8 e7
      refine ⟨D, W7, st7.wp vs1, H8, _, _, rfl, P8.sig (wipe_in fun _ z => z), r8, q7, fun st9 σ9 q9 P9 w9 => ?_⟩
      have e9 : wipe σ9 vs1 = wipe σ5 vs1 := (w9 vs1 hv1).trans (wipe_in fun _ z => z)
      refine ⟨e9, D, W7, st9, H8, _, rfl, P9, q9, fun b st10 W10 H10 q10 s10 P10 => ?_⟩
      have x10 := blk_at P9 s10 x8
      cases b with
      | false => exact iteF ⟨jlt, W10, st10, H10, acc7, rfl, P10.wp e9.symm rfl rfl rfl fun _ z => z, (s7.trans s8).trans s10, (A7.trans (P7.aft s8)).trans (P9.aft s10), ⟨n7, l7, x10⟩, q10⟩
      | true =>
        refine iteT ⟨D, W10, st10, H10, _, rfl, P10, q10, fun r st11 v W11 H11 q11 s11 P11 rv => ?_⟩
        obtain ⟨n, rfl, hl, q12⟩ := q11
        have rv' : Rp W11 H11 v (.int n) := rv
        cases rv'
        have x11 := blk_at P10 s11 x10
        obtain ⟨P12, f12⟩ := P11.mutX (u' := SetO w D (fun j => decide (j ∈ acc7) || decide (j = n)) (if decide (n ∈ acc7) = true then n7 else n7 + 1)) (.inr rfl) f3 x11 setO_tup
        have nl : W11.L.lookup D = none := P11.lown (P11.rsv D (.inr rfl)).1 (P11.rsv D (.inr rfl)).2.1
        refine ⟨n, _, n7, rfl, by rw [lock_at nl]; exact x11, by unfold scanBound; omega, jlt, W11, st11, upd H11 D _, acc7 ++ [n], ?_, P12.wp e9.symm rfl rfl rfl fun _ z => z, (((s7.trans s8).trans s10).trans s11).updN d1, (((A7.trans (P7.aft s8)).trans (P9.aft s10)).trans (P10.aft s11)).trans ⟨f12, [], rfl⟩, SetAt.add l7 n, q12⟩
        exact lock_upd nl
    · have e : j = es.length := by omega
      rw [e, List.drop_length] at q7
      have P13 : Pre (c.blk D) W7 ((st7.wp vs1).wp vs) σ H7 := P7.wp (vs := vs) e5.symm rfl rfl rfl fun _ z => z
      exact .inl ⟨b2 j (by omega), hlt, W7, st7.wp vs1, H7, acc7, rfl, P13, s7, ⟨n7, l7, e7⟩, q7⟩
  · have e : i = ds.length := by omega
    rw [e, List.drop_length] at q2
    obtain ⟨k1, k2, k3, k4⟩ := P2.rsv D (.inr rfl)
    obtain ⟨n, ln, en⟩ := hx
    have nl : W2.L.lookup D = none := P2.lown k1 k2
    have q2 : KQ acc (st2.wp vs) := q2
    rw [← hK] at q2
    obtain ⟨l60, q2⟩ := q2
    refine .inl ⟨g2 i (by omega), D, _, n, rfl, by rw [lock_at nl]; exact en, by omega, fun ys p hs hm _ hp => ?_⟩
    have P3 : Pre c W2 (st2.wp vs) σ H3 := P2.ctx rfl rfl rfl fun _ z => .inl z
    obtain ⟨p1, p2⟩ := P3.lnone' hp
    obtain ⟨sp, Pp, a1, a2, a3, a4, a5⟩ := P3.fresh (o := .lst (ys.map V.int)) p1
    rw [lock_upd p2]
    refine k _ _ _ _ _ (q2 ys hs fun k => (hm k).trans (by simp)) ((s1.trans s2).trans sp) Pp ⟨p, rfl, ⟨_, upd_same, RepL.ints ys⟩, a1, a2, a3, a4, a5⟩
end Q
/-! sorted(set(whole numbers)), list(range(n)), sorted of a set comprehension, over plain states -/
namespace Q
open PySem L2 PySem.Spec PyProof.Rows NdefX
theorem Pre.grow {c : C0} {W : Wd} {st : Ps} {σ : L2.St} {H G : Hp} (P : Pre c W st σ H) (h : ∀ b o, H b = some o → G b = some o) : Step c.rw W H W G ∧ Pre c W st σ G := by
  have sf : Step false W H W G := ⟨fun _ _ e => e, fun _ h => h, fun a o e _ => h a o e, fun a xs e => h a _ e, fun a e => by
    obtain ⟨o, q⟩ := Option.ne_none_iff_exists'.mp e
    rw [h a o q]
    exact nofun, fun _ h => .inl h, ⟨[], rfl⟩, fun _ h => .inl h⟩
  exact ⟨sf.up, P.call (S' := st.S) sf.up (fun a h => .inl h) (P.base.later sf)⟩
/-- what grew behind the locks -/
theorem Pre.growL {c : C0} {W : Wd} {st : Ps} {σ : L2.St} {H H2 : Hp} (P : Pre c W st σ H) (h : ∀ b o, lockH W.L H b = some o → H2 b = some o) : ∃ G, H2 = lockH W.L G ∧ Step c.rw W H W G ∧ Pre c W st σ G := by
  refine ⟨fun b => match H b with | some o => some o | none => H2 b, ?_, P.grow fun b o e => by show (match H b with | some o => some o | none => H2 b) = _; rw [e]⟩
  funext b
  unfold lockH
  cases e : H b with
  | some o =>
    cases l : W.L.lookup b with
    | none =>
      dsimp only
      rw [e]
      exact h b o (by unfold lockH; rw [l]; exact e)
    | some ob =>
      dsimp only
      rw [e]
      exact h b _ (by unfold lockH; rw [l]; dsimp only; rw [e]; rfl)
  | none =>
    rw [P.lnone e]
    dsimp only
    rw [e]
section
variable {X : Cx}
def xSortSet (f : Ex) : Ox := fun E st Q => f E st fun r st1 => opt (look st1 r) fun d => match d with
  | .lst ds => opt (intsD ds) fun ns => ns.length < 60 ∧ ∀ ys : List Int, ys.Pairwise (· < ·) → (∀ k, k ∈ ys ↔ k ∈ ns) → Q (.lst (ys.map D.int)) st1
  | _ => False
theorem po_sortSet {e ee : Expr} {f : Ex} (h : ∀ {t : TE}, PE X e t → PE X ee (tSortSet X.K t)) (h1 : PX X e f) : PO X ee (xSortSet f) := fun c l => peOf (h (h1 c l)) fun σ H Q ⟨W, st, H1, Q0, hH, P, q, k⟩ =>
  ⟨W, st, H1, _, hH, P, q, fun r st1 v W1 H2 q1 s1 P1 rv => by
    obtain ⟨d, e1, q1⟩ := opt_ex q1
    have t := P1.top rv e1
    split at q1
    · obtain ⟨ns, e2, hl, q2⟩ := opt_ex q1
      cases t with
      | lst h1 r1 =>
        have := ints_rep r1 e2
        subst this
        refine ⟨_, ns, rfl, SqL.of (P1.nol h1 rfl), hl, fun ys hs hm H3 g p hp => ?_⟩
        obtain ⟨G, rfl, s2, P2⟩ := P1.growL g
        obtain ⟨p1, p2⟩ := P2.lnone' hp
        obtain ⟨sp, Pp, a1, a2, a3, a4, a5⟩ := P2.fresh (o := .lst (ys.map V.int)) p1
        rw [lock_upd p2]
        exact k _ _ _ _ _ (q2 ys hs hm) ((s1.trans s2).trans sp) Pp ⟨p, rfl, ⟨_, upd_same, RepL.ints ys⟩, a1, a2, a3, a4, a5⟩
    · exact q1.elim⟩
def xLstRg (f : Ex) : Ox := fun E st Q => f E st fun r st1 => ∃ j : Int, r = .v (.int j) ∧ (0 ≤ j ∧ j ≤ 1000) ∧ Q (.lst (rngD 0 j.toNat)) st1
theorem RepL.rng {φ F H} (n : Nat) : RepL φ F H ((List.range n).map fun (i : Nat) => V.int (0 + (i : Int))) (rngD 0 n) := by
  unfold rngD
  generalize List.range n = l
  induction l with
  | nil => exact .nil
  | cons a l ih => exact .cons (.int _) ih
theorem po_lstRg {e ee : Expr} {f : Ex} (h : ∀ {t : TE}, PE X e t → PE X ee (tLstRg (tRg1 t))) (h1 : PX X e f) : PO X ee (xLstRg f) := fun c l => peOf (h (h1 c l)) fun σ H Q ⟨W, st, H1, Q0, hH, P, q, k⟩ =>
  ⟨W, st, H1, _, hH, P, q, fun r st1 v W1 H2 q1 s1 P1 rv => by
    obtain ⟨j, rfl, ⟨j0, j1⟩, q2⟩ := q1
    have rv' : Rp W1 H2 v (.int j) := rv
    cases rv'
    refine ⟨j, rfl, RgOk.of_le (by decide) (by omega) (by decide) j0, fun p hp => ?_⟩
    obtain ⟨p1, p2⟩ := P1.lnone' hp
    obtain ⟨sp, Pp, a1, a2, a3, a4, a5⟩ := P1.fresh (o := .lst (rgV 0 j)) p1
    rw [lock_upd p2]
    refine k _ _ _ _ _ q2 (s1.trans sp) Pp ⟨p, rfl, ⟨_, upd_same, ?_⟩, a1, a2, a3, a4, a5⟩
    unfold rgV
    rw [Int.sub_zero]
    exact RepL.rng j.toNat⟩
theorem po_sortSc2 {el tg0 src0 tg1 src1 : Expr} {fs1 : List Expr} {scp : Scope} {mine : List (Str × Nat)} {vs1 is is1 : List Nat} {pp p q : Pos} {fi fi1 : Ix} {tg tg2 : Tg} {tt1 : Tx} {fe : Ex} (hc : X.calm = true) (nodN : X.N.Nodup) (hg0 : Gl X "sorted") (hm0 : X.mg "sorted" = none) (hi : PXI X tg0 src0 fi) (ok : BlkOk X.N X.env.scope scp mine) (sub0 : ∀ i ∈ is, i ∈ mine.map (·.2)) (sub1 : ∀ i ∈ vs1, i ∈ mine.map (·.2)) (sub2 : ∀ i ∈ is1, i ∈ vs1)
    (hg : ∀ (s : Shared) (H : Hp) (C : Addr) (cl : List (Str × Addr)) (fp : List Addr), PXG (X.blk s H scp (compEnvC scp cl C X.env) fp) tg0 tg is)
    (hi1 : ∀ (s : Shared) (H : Hp) (C : Addr) (cl : List (Str × Addr)) (fp : List Addr), PXI (X.blk s H scp (compEnvC scp cl C X.env) fp) tg1 src1 fi1)
    (hg1 : ∀ (s : Shared) (H : Hp) (C : Addr) (cl : List (Str × Addr)) (fp : List Addr), PXG (X.blk s H scp (compEnvC scp cl C X.env) fp) tg1 tg2 is1)
    (ht1 : ∀ (s : Shared) (H : Hp) (C : Addr) (cl : List (Str × Addr)) (fp : List Addr), PXTs (X.blk s H scp (compEnvC scp cl C X.env) fp) fs1 tt1)
    (he : ∀ (s : Shared) (H : Hp) (C : Addr) (cl : List (Str × Addr)) (fp : List Addr), PX (X.blk s H scp (compEnvC scp cl C X.env) fp) el fe)
    (hs : ∀ x, foldedSetIterable src0 X.env x = pure x := by intro _; rfl) (hs1 : ∀ ev x, foldedSetIterable src1 ev x = pure x := by intro _ _; rfl)
    (na : starEach [.SetComp el [⟨tg0, src0, [], 0⟩, ⟨tg1, src1, fs1, 0⟩] scp pp] X.env = (false, eval (.SetComp el [⟨tg0, src0, [], 0⟩, ⟨tg1, src1, fs1, 0⟩] scp pp) X.env) :: starEach [] X.env := by rfl) :
    PO X (.Call (.Name "sorted" p) [.SetComp el [⟨tg0, src0, [], 0⟩, ⟨tg1, src1, fs1, 0⟩] scp pp] [] q) (xSortSc2 fi tg fi1 tg2 tt1 fe (mine.map (·.2)) vs1) := fun c l =>
  peOf (pe_sortSc2 hc hg0 hm0 (pe_sc2 hc nodN (hi c l) ok sub1 (fun s H C cl fp => pg_any c (hg s H C cl fp)) (fun _ _ _ _ _ => pts_nil) (fun s H C cl fp => pi_anyB c (hi1 s H C cl fp)) (fun s H C cl fp => pg_any c (hg1 s H C cl fp)) (fun s H C cl fp => pts_any c (ht1 s H C cl fp)) (fun s H C cl fp => pe_any c (he s H C cl fp)) hs hs1) na) fun σ H Q h => sc2_go sub0 sub2 sub1 h
end
end Q
/-! a test in a calm state; repr of any plain value -/
namespace Q
open PySem L2 PySem.Spec PyProof.Rows NdefX
def xCalmT (t : Tx) : Tx := fun E st Q => (st.rw = true) ∧ t E0k ⟨st.ρ.map calmO, [], false, false⟩ fun b st' => st'.S = [] ∧ Q b st
theorem pxt_calm {X : Cx} {e : Expr} {t : Tx} (h : PXT X e t) : PXT X e (xCalmT t) := fun c l => ⟨fun pins s σ H Q I ⟨W, st, H1, Q0, hH, P, ⟨hr, q⟩, k⟩ => by
  have hc : c.rw = true := P.hrw.symm.trans hr
  have l' : Lk X (C0.calm (W.calm st.ρ σ) H1) := Takes.imp l fun cls od σ H ⟨_, _, _, _, _, _, _, _, _, z⟩ => z.elim
  refine (h (C0.calm (W.calm st.ρ σ) H1) l').run pins s σ H Q I ⟨W.calm st.ρ σ, _, H1, _, hH, P.calm (fun z => by rw [hc] at z; cases z), q, fun b st' W' H2 q1 s1 P1 => ?_⟩
  obtain ⟨s3, P3⟩ := P.wake s1 P1 q1.1
  exact k b st (W.wake W' st.ρ σ) H2 q1.2 s3 P3⟩
section
variable {X : Cx}
def rRepr0 : List V → Hp → VK → Prop := fun xs H Q => (xs = [.non] ∧ Q (.str "None") H) ∨ (∃ b, xs = [.bl b] ∧ Q (.str (if b = true then "True" else "False")) H) ∨ (∃ i : Int, xs = [.int i] ∧ i.natAbs.log2 < 1920 ∧ Q (.str (toString i)) H) ∨ (∃ s, xs = [.str s] ∧ (reprText s).length ≤ sizeLine ∧ Q (.str (reprText s)) H)
theorem call_repr0 : CallR X (.builtin "repr") rRepr0 := by
  intro pins s σ H xs us Q I r h
  rcases h with ⟨rfl, q⟩ | ⟨b, rfl, q⟩ | ⟨i, rfl, hi, q⟩ | ⟨x, rfl, hx, q⟩
  · obtain ⟨u, rfl, ru⟩ := r.one
    cases ru
    exact PySem.P.repr_of_none ⟨.str _, H, I.tok _, ⟨_, rfl⟩, q⟩
  · obtain ⟨u, rfl, ru⟩ := r.one
    cases ru
    refine PySem.P.repr_of_bool ⟨.str _, H, I.tok _, ⟨_, rfl⟩, ?_⟩
    cases b <;> exact q
  · obtain ⟨u, rfl, ru⟩ := r.one
    obtain ⟨t, rfl⟩ := ru
    exact PySem.P.repr_of_int hi ⟨.str _, H, I.tok _, ⟨_, rfl⟩, q⟩
  · obtain ⟨u, rfl, ru⟩ := r.one
    obtain ⟨t, rfl⟩ := ru
    exact PySem.P.repr_of_str ⟨.str _, H, I.tok _, ⟨_, rfl⟩, q⟩ hx
end
def reprA : Gc := fun ds J => match ds with
  | [.non] => J (.d (.str "None"))
  | [.bl b] => J (.d (.str (if b = true then "True" else "False")))
  | [.int i] => i.natAbs.log2 < 1920 ∧ J (.d (.str (toString i)))
  | [.str s] => (reprText s).length ≤ sizeLine ∧ J (.d (.str (reprText s)))
  | ds => reprR ds J
theorem g_reprA : CallG (fun xs H Q => rRepr0 xs H Q ∨ rReprR xs H Q) reprA := fun c W st σ H vs ds Q J P t g k => by
  unfold reprA at g
  split at g
  · obtain ⟨v, rfl, t1⟩ := tops_1 t
    cases t1
    exact .inl (.inl ⟨rfl, (k _ g).d P (.str _)⟩)
  · obtain ⟨v, rfl, t1⟩ := tops_1 t
    cases t1
    exact .inl (.inr (.inl ⟨_, rfl, (k _ g).d P (.str _)⟩))
  · obtain ⟨v, rfl, t1⟩ := tops_1 t
    cases t1
    exact .inl (.inr (.inr (.inl ⟨_, rfl, g.1, (k _ g.2).d P (.str _)⟩)))
  · obtain ⟨v, rfl, t1⟩ := tops_1 t
    cases t1
    exact .inl (.inr (.inr (.inr ⟨_, rfl, g.1, (k _ g.2).d P (.str _)⟩)))
  · exact .inr (g_reprR c W st σ H vs _ Q J P t g k)
end Q
namespace Q
open PySem L2 PySem.Spec PyProof.Rows NdefX LamX
theorem sc_InvalidTemplate___init__ : NScope N_InvalidTemplate___init__ p_InvalidTemplate___init__ ["__class__"] (defScope s_InvalidTemplate___init__) := nscope_by (by decide +kernel)
theorem sc_is_integer : FnScope N_is_integer p_is_integer (defScope s_is_integer) := ⟨rfl, rfl, rfl, by decide +kernel, rfl, by decide +kernel, by decide +kernel⟩
theorem sc_is_within : FnScope N_is_within p_is_within (defScope s_is_within) := ⟨rfl, rfl, rfl, by decide +kernel, rfl, by decide +kernel, by decide +kernel⟩
theorem sc_is_word : FnScope N_is_word p_is_word (defScope s_is_word) := ⟨rfl, rfl, rfl, by decide +kernel, rfl, by decide +kernel, by decide +kernel⟩
theorem sc_is_list : FnScope N_is_list p_is_list (defScope s_is_list) := ⟨rfl, rfl, rfl, by decide +kernel, rfl, by decide +kernel, by decide +kernel⟩
theorem sc_is_cell : FnScope N_is_cell p_is_cell (defScope s_is_cell) := ⟨rfl, rfl, rfl, by decide +kernel, rfl, by decide +kernel, by decide +kernel⟩
theorem sc_is_entry : FnScope N_is_entry p_is_entry (defScope s_is_entry) := ⟨rfl, rfl, rfl, by decide +kernel, rfl, by decide +kernel, by decide +kernel⟩
theorem sc_parameters_in : FnScope N_parameters_in p_parameters_in (defScope s_parameters_in) := ⟨rfl, rfl, rfl, by decide +kernel, rfl, by decide +kernel, by decide +kernel⟩
theorem sc_Template___init__ : FnScope N_Template___init__ p_Template___init__ (defScope s_Template___init__) := ⟨rfl, rfl, rfl, by decide +kernel, rfl, by decide +kernel, by decide +kernel⟩
theorem sc_Template___eq__ : FnScope N_Template___eq__ p_Template___eq__ (defScope s_Template___eq__) := ⟨rfl, rfl, rfl, by decide +kernel, rfl, by decide +kernel, by decide +kernel⟩
theorem sc_Template_put_rows : FnScope N_Template_put_rows p_Template_put_rows (defScope s_Template_put_rows) := ⟨rfl, rfl, rfl, by decide +kernel, rfl, by decide +kernel, by decide +kernel⟩
theorem sc_Template_taken_rows : FnScope N_Template_taken_rows p_Template_taken_rows (defScope s_Template_taken_rows) := ⟨rfl, rfl, rfl, by decide +kernel, rfl, by decide +kernel, by decide +kernel⟩
theorem sc_Template_parameters : FnScope N_Template_parameters p_Template_parameters (defScope s_Template_parameters) := ⟨rfl, rfl, rfl, by decide +kernel, rfl, by decide +kernel, by decide +kernel⟩
theorem sc__law_pen : FnScope N__law_pen p__law_pen (defScope s__law_pen) := ⟨rfl, rfl, rfl, by decide +kernel, rfl, by decide +kernel, by decide +kernel⟩
theorem sc__law_draw : FnScope N__law_draw p__law_draw (defScope s__law_draw) := ⟨rfl, rfl, rfl, by decide +kernel, rfl, by decide +kernel, by decide +kernel⟩
theorem sc__law_pick : FnScope N__law_pick p__law_pick (defScope s__law_pick) := ⟨rfl, rfl, rfl, by decide +kernel, rfl, by decide +kernel, by decide +kernel⟩
theorem sc__law_qint : FnScope N__law_qint p__law_qint (defScope s__law_qint) := ⟨rfl, rfl, rfl, by decide +kernel, rfl, by decide +kernel, by decide +kernel⟩
theorem sc__law_qodd : FnScope N__law_qodd p__law_qodd (defScope s__law_qodd) := ⟨rfl, rfl, rfl, by decide +kernel, rfl, by decide +kernel, by decide +kernel⟩
theorem sc__law_vused : FnScope N__law_vused p__law_vused (defScope s__law_vused) := ⟨rfl, rfl, rfl, by decide +kernel, rfl, by decide +kernel, by decide +kernel⟩
theorem sc__law_is_word_here : FnScope N__law_is_word_here p__law_is_word_here (defScope s__law_is_word_here) := ⟨rfl, rfl, rfl, by decide +kernel, rfl, by decide +kernel, by decide +kernel⟩
theorem sc__law_is_entry : FnScope N__law_is_entry p__law_is_entry (defScope s__law_is_entry) := ⟨rfl, rfl, rfl, by decide +kernel, rfl, by decide +kernel, by decide +kernel⟩
theorem sc__law_due : FnScope N__law_due p__law_due (defScope s__law_due) := ⟨rfl, rfl, rfl, by decide +kernel, rfl, by decide +kernel, by decide +kernel⟩
theorem sc__law_told : FnScope N__law_told p__law_told (defScope s__law_told) := ⟨rfl, rfl, rfl, by decide +kernel, rfl, by decide +kernel, by decide +kernel⟩
theorem sc__law_entry : FnScope N__law_entry p__law_entry (defScope s__law_entry) := ⟨rfl, rfl, rfl, by decide +kernel, rfl, by decide +kernel, by decide +kernel⟩
theorem sc__law_bad : FnScope N__law_bad p__law_bad (defScope s__law_bad) := ⟨rfl, rfl, rfl, by decide +kernel, rfl, by decide +kernel, by decide +kernel⟩
theorem sc__law_same : FnScope N__law_same p__law_same (defScope s__law_same) := ⟨rfl, rfl, rfl, by decide +kernel, rfl, by decide +kernel, by decide +kernel⟩
theorem sc_law : FnScope N_law p_law (defScope s_law) := ⟨rfl, rfl, rfl, by decide +kernel, rfl, by decide +kernel, by decide +kernel⟩
end Q
namespace Q
open PySem L2 PySem.Spec PyProof.Rows NdefX LamX
structure Cs where
  InvalidTemplate : Addr
  TooMany : Addr
  Template : Addr
  zz : Addr
/-- facts of classes that the plain laws need -/
structure Fk (K : PySem.W.Frag) (cs : Cs) : Prop where
  f_Template_own_put : FldOk K cs.Template "own_put"
  f_Template_own_taken : FldOk K cs.Template "own_taken"
  f_Template_many : FldOk K cs.Template "many"
  i_Template : InsT K cs.Template
  k0 : PySem.W.kitOne K (.ref cs.Template) (.ref cs.Template) = some true
  k1 : PySem.W.kitOne K (.ref cs.InvalidTemplate) (.type "ValueError") = some true
  k2 : PySem.W.kitOne K (.type "tuple") (.ref cs.Template) = some false
  k3 : PySem.W.kitOne K (.type "NoneType") (.ref cs.Template) = some false
  x_InvalidTemplate_InvalidTemplate : PySem.W.exmOne K (.ref cs.InvalidTemplate) (.ref cs.InvalidTemplate) = some true
structure All (P : Program) (K : PySem.W.Frag) (mg : Str → Option Value) (cs : Cs) where
  fk : Fk K cs
  a_InvalidTemplate___init__ : Addr
  d_InvalidTemplate___init__ : FuncData
  cc_InvalidTemplate___init__ : Addr
  c_InvalidTemplate___init__ : Addr
  F_InvalidTemplate___init__ : FunS K "__init__" "InvalidTemplate.__init__" s_InvalidTemplate___init__ a_InvalidTemplate___init__ d_InvalidTemplate___init__ cc_InvalidTemplate___init__ c_InvalidTemplate___init__ cs.InvalidTemplate
  e_InvalidTemplate : ErrK P K mg "InvalidTemplate" cs.InvalidTemplate a_InvalidTemplate___init__ d_InvalidTemplate___init__ c_InvalidTemplate___init__ "ValueError" "ValueError.__new__" "ValueError.__init__" [.type "ValueError", .type "Exception", .type "BaseException", .type "object"] ["index"] p_InvalidTemplate___init__
  a_is_integer : Addr
  d_is_integer : FuncData
  F_is_integer : Fun K "is_integer" "is_integer" s_is_integer a_is_integer d_is_integer
  D_is_integer : Dk K mg "is_integer" a_is_integer d_is_integer p_is_integer
  a_is_within : Addr
  d_is_within : FuncData
  F_is_within : Fun K "is_within" "is_within" s_is_within a_is_within d_is_within
  D_is_within : Dk K mg "is_within" a_is_within d_is_within p_is_within
  a_is_word : Addr
  d_is_word : FuncData
  F_is_word : Fun K "is_word" "is_word" s_is_word a_is_word d_is_word
  D_is_word : Dk K mg "is_word" a_is_word d_is_word p_is_word
  a_is_list : Addr
  d_is_list : FuncData
  F_is_list : Fun K "is_list" "is_list" s_is_list a_is_list d_is_list
  D_is_list : Dk K mg "is_list" a_is_list d_is_list p_is_list
  a_is_cell : Addr
  d_is_cell : FuncData
  F_is_cell : Fun K "is_cell" "is_cell" s_is_cell a_is_cell d_is_cell
  D_is_cell : Dk K mg "is_cell" a_is_cell d_is_cell p_is_cell
  a_is_entry : Addr
  d_is_entry : FuncData
  F_is_entry : Fun K "is_entry" "is_entry" s_is_entry a_is_entry d_is_entry
  D_is_entry : Dk K mg "is_entry" a_is_entry d_is_entry p_is_entry
  a_parameters_in : Addr
  d_parameters_in : FuncData
  F_parameters_in : Fun K "parameters_in" "parameters_in" s_parameters_in a_parameters_in d_parameters_in
  D_parameters_in : Dk K mg "parameters_in" a_parameters_in d_parameters_in p_parameters_in
  a_Template___init__ : Addr
  d_Template___init__ : FuncData
  F_Template___init__ : Fun K "__init__" "Template.__init__" s_Template___init__ a_Template___init__ d_Template___init__
  M_Template___init__ : Meth K cs.Template "__init__" a_Template___init__
  B_Template___init__ : Binds K d_Template___init__ p_Template___init__ []
  mk_Template : Mk K cs.Template a_Template___init__
  a_Template___eq__ : Addr
  d_Template___eq__ : FuncData
  F_Template___eq__ : Fun K "__eq__" "Template.__eq__" s_Template___eq__ a_Template___eq__ d_Template___eq__
  M_Template___eq__ : Meth K cs.Template "__eq__" a_Template___eq__
  B_Template___eq__ : Binds K d_Template___eq__ p_Template___eq__ []
  a_Template_put_rows : Addr
  d_Template_put_rows : FuncData
  F_Template_put_rows : Fun K "put_rows" "Template.put_rows" s_Template_put_rows a_Template_put_rows d_Template_put_rows
  p_Template_put_rows_ : Addr
  P_Template_put_rows : PropOf K cs.Template "put_rows" p_Template_put_rows_ a_Template_put_rows
  B_Template_put_rows : Binds K d_Template_put_rows p_Template_put_rows []
  a_Template_taken_rows : Addr
  d_Template_taken_rows : FuncData
  F_Template_taken_rows : Fun K "taken_rows" "Template.taken_rows" s_Template_taken_rows a_Template_taken_rows d_Template_taken_rows
  p_Template_taken_rows_ : Addr
  P_Template_taken_rows : PropOf K cs.Template "taken_rows" p_Template_taken_rows_ a_Template_taken_rows
  B_Template_taken_rows : Binds K d_Template_taken_rows p_Template_taken_rows []
  a_Template_parameters : Addr
  d_Template_parameters : FuncData
  F_Template_parameters : Fun K "parameters" "Template.parameters" s_Template_parameters a_Template_parameters d_Template_parameters
  p_Template_parameters_ : Addr
  P_Template_parameters : PropOf K cs.Template "parameters" p_Template_parameters_ a_Template_parameters
  B_Template_parameters : Binds K d_Template_parameters p_Template_parameters []
  a__law_pen : Addr
  d__law_pen : FuncData
  F__law_pen : Fun K "_law_pen" "_law_pen" s__law_pen a__law_pen d__law_pen
  D__law_pen : Dk K mg "_law_pen" a__law_pen d__law_pen p__law_pen
  a__law_draw : Addr
  d__law_draw : FuncData
  F__law_draw : Fun K "_law_draw" "_law_draw" s__law_draw a__law_draw d__law_draw
  D__law_draw : Dk K mg "_law_draw" a__law_draw d__law_draw p__law_draw
  a__law_pick : Addr
  d__law_pick : FuncData
  F__law_pick : Fun K "_law_pick" "_law_pick" s__law_pick a__law_pick d__law_pick
  D__law_pick : Dk K mg "_law_pick" a__law_pick d__law_pick p__law_pick
  a__law_qint : Addr
  d__law_qint : FuncData
  F__law_qint : Fun K "_law_qint" "_law_qint" s__law_qint a__law_qint d__law_qint
  D__law_qint : Dk K mg "_law_qint" a__law_qint d__law_qint p__law_qint
  a__law_qodd : Addr
  d__law_qodd : FuncData
  F__law_qodd : Fun K "_law_qodd" "_law_qodd" s__law_qodd a__law_qodd d__law_qodd
  D__law_qodd : Dk K mg "_law_qodd" a__law_qodd d__law_qodd p__law_qodd
  a__law_vused : Addr
  d__law_vused : FuncData
  F__law_vused : Fun K "_law_vused" "_law_vused" s__law_vused a__law_vused d__law_vused
  D__law_vused : Dk K mg "_law_vused" a__law_vused d__law_vused p__law_vused
  a__law_is_word_here : Addr
  d__law_is_word_here : FuncData
  F__law_is_word_here : Fun K "_law_is_word_here" "_law_is_word_here" s__law_is_word_here a__law_is_word_here d__law_is_word_here
  D__law_is_word_here : Dk K mg "_law_is_word_here" a__law_is_word_here d__law_is_word_here p__law_is_word_here
  a__law_is_entry : Addr
  d__law_is_entry : FuncData
  F__law_is_entry : Fun K "_law_is_entry" "_law_is_entry" s__law_is_entry a__law_is_entry d__law_is_entry
  D__law_is_entry : Dk K mg "_law_is_entry" a__law_is_entry d__law_is_entry p__law_is_entry
  a__law_due : Addr
  d__law_due : FuncData
  F__law_due : Fun K "_law_due" "_law_due" s__law_due a__law_due d__law_due
  D__law_due : Dk K mg "_law_due" a__law_due d__law_due p__law_due
  a__law_told : Addr
  d__law_told : FuncData
  F__law_told : Fun K "_law_told" "_law_told" s__law_told a__law_told d__law_told
  D__law_told : Dk K mg "_law_told" a__law_told d__law_told p__law_told
  a__law_entry : Addr
  d__law_entry : FuncData
  F__law_entry : Fun K "_law_entry" "_law_entry" s__law_entry a__law_entry d__law_entry
  D__law_entry : Dk K mg "_law_entry" a__law_entry d__law_entry p__law_entry
  a__law_bad : Addr
  d__law_bad : FuncData
  F__law_bad : Fun K "_law_bad" "_law_bad" s__law_bad a__law_bad d__law_bad
  D__law_bad : Dk K mg "_law_bad" a__law_bad d__law_bad p__law_bad
  a__law_same : Addr
  d__law_same : FuncData
  F__law_same : Fun K "_law_same" "_law_same" s__law_same a__law_same d__law_same
  D__law_same : Dk K mg "_law_same" a__law_same d__law_same p__law_same
  a_law : Addr
  d_law : FuncData
  F_law : Fun K "law" "law" s_law a_law d_law
  D_law : Dk K mg "law" a_law d_law p_law
  ne_Template : PySem.W.findIn K (.ref cs.Template) "__ne__" = some (some (.builtin "object.__ne__"))
  ob_Template : PySem.W.subIn K (.ref cs.Template) (.type "object") = some true
  nn_Template : PySem.W.notFirst K cs.Template (.type "NoneType") = true
  nt_Template : PySem.W.notFirst K cs.Template (.type "tuple") = true
  ca_InvalidTemplate : CauK K cs.InvalidTemplate ["index"]
  b_isinstance : mg "isinstance" = none
  b_str : mg "str" = none
  b_len : mg "len" = none
  b_all : mg "all" = none
  b_list : mg "list" = none
  b_tuple : mg "tuple" = none
  b_enumerate : mg "enumerate" = none
  b_range : mg "range" = none
  b_int : mg "int" = none
  b_abs : mg "abs" = none
  b_repr : mg "repr" = none
  b_sorted : mg "sorted" = none
  b_set : mg "set" = none
  b_bool : mg "bool" = none
  b_super : mg "super" = none
  b_ValueError : mg "ValueError" = none
  k_MAX_WORD : ∃ t, mg "MAX_WORD" = some (.int 8 t)
  k_MAX_COLUMNS : ∃ t, mg "MAX_COLUMNS" = some (.int 3 t)
  k_MAX_NAMES : ∃ t, mg "MAX_NAMES" = some (.int 4 t)
  k_SMALL : ∃ t, mg "SMALL" = some (.str "abcdefghijklmnopqrstuvwxyz" t)
  g_InvalidTemplate : mg "InvalidTemplate" = some (.ref cs.InvalidTemplate)
  g_Template : mg "Template" = some (.ref cs.Template)
  cl_Template : Cls K cs.Template
end Q
namespace Q
open PySem L2
structure BiP (mg : Str → Option Value) : Prop where
  len : mg "len" = none
  list : mg "list" = none
  int : mg "int" = none
  abs : mg "abs" = none
theorem dget_some {H : Hp} {a : Addr} {kvs : List (Key × V)} {k : Key} {v : V} (h : H a = some (.dK kvs)) (e : valV kvs k = some v) : DGet H a (kV k) (some v) := by rw [← e]; exact .k h
section
variable {P : Program} {w : World} {K : PySem.W.Frag} {mg : Str → Option Value} {base : Heap} {f : Addr} {fd : FuncData} {f1 f2 f3 : Addr} {fd1 fd2 fd3 : FuncData} {cs : Cs}
theorem ok_pen0 (F : Fun K "_law_pen" "_law_pen" s__law_pen f fd) (B : BiP mg) : FnOk P w K mg base CX0 1 f fd ["_law_script"] (spPen K) := by
  refine F.ok sc__law_pen (fun vs H Q E h => ?_) (fun cdv A outer s H vs Q E hr h => ?_)
  · obtain ⟨a, ns, rfl, _⟩ := h
    rfl
  · obtain ⟨a, ns, rfl, hs, hn, k⟩ := h
    refine ⟨_, (pss_one (ps_ret (pe_disp (pps_cons pe_str (pe_callTy (kList K) (by rfl) B.list (by decide +kernel) (pa_cons (pe_slice (kSlL K) (pv 0) po_none (po_some pe_int)) pa_nil)) (pps_cons pe_str pe_int (pps_cons pe_str pe_int pps_nil))) (by rfl) (by rfl) (fun z => by cases z) (by decide)))), ?_⟩
    intro p hp
    refine ⟨_, rfl, _, rfl, a, _, rfl, same_l (same_new hp) hs, fun b hb => ?_⟩
    have npb : p ≠ b := ne_of_none upd_same hb
    refine ⟨b, _, rfl, .inl (SqL.of upd_same), fun c hc => ?_⟩
    have npc : p ≠ c := ne_of_none (by rw [upd_ne npb]; exact upd_same) hc
    refine ⟨by rw [upd_ne npc, upd_ne npb]; exact upd_same, penK c 0 0, rfl, (show 3 ≤ 15 by decide), ?_⟩
    have e1 : cutV (ns.map V.int) none (some 63) = ns.map V.int := by
      rw [show (63 : Int) = ((63 : Nat) : Int) from rfl, cut_take, List.take_of_length_le (by rw [List.length_map]; exact hn)]
    refine k p c _ hp (upd_none (upd_none hc)) npc (same_mut (((same_new hp).trans (same_new hb)).trans (same_new hc)) hp) ⟨ns, 0, 0, ?_, ?_, hn, by omega, by omega, by omega⟩
    · rw [upd_same]
      rfl
    · rw [upd_ne npc.symm, upd_same, e1]
theorem ok_draw0 (F : Fun K "_law_draw" "_law_draw" s__law_draw f fd) (B : BiP mg) : FnOk P w K mg base CX0 1 f fd ["_law_pen_here", "_law_span"] spDraw := by
  refine F.ok sc__law_draw (fun vs H Q E h => ?_) (fun cdv A outer s H vs Q E hr h => ?_)
  · obtain ⟨p, c, n, span, rfl, _⟩ := h
    rfl
  · obtain ⟨p, c, n, span, rfl, hp, hn, h0, h1, k⟩ := h
    have hu := hu_of hr
    refine ⟨_, (pss_cons (ps_if (pt_cmpR op_gt (pe_dget hu (pv 0) pe_str (fun _ _ => rfl)) pe_int (nomark _)) (pss_cons (ps_set (i := 7) sc__law_draw.nd rfl (Or.inl rfl) (pe_op op_mod (pe_callTy call_int1 (by rfl) B.int (by decide +kernel) (pa_cons (pe_dget hu (pv 0) pe_str (fun _ _ => rfl)) pa_nil)) (pv 1)))
      (pss_cons (ps_dput hu (pv 0) pe_str (pe_op op_fdiv (pe_dget hu (pv 0) pe_str (fun _ _ => rfl)) (pv 1)) rfl)
      (pss_one (ps_ret (pv 7))))) pss_nil)
      (pss_cons (ps_set (i := 2) sc__law_draw.nd rfl (Or.inl rfl) (pe_dget hu (pv 0) pe_str (fun _ _ => rfl)))
      (pss_cons (ps_dput hu (pv 0) pe_str (pe_op op_add (pv 2) pe_int) rfl)
      (pss_cons (ps_set (i := 3) sc__law_draw.nd rfl (Or.inl rfl) (pe_op op_add (pe_op op_mul pe_int (pv 2)) pe_int))
      (pss_cons (ps_if (pt_cmpR (kNeD K hr.units) (pe_dget hu (pv 0) pe_str (fun _ _ => rfl)) (pe_lst pa_nil) (nomark _)) (pss_one (ps_set (i := 3) sc__law_draw.nd rfl (Or.inl rfl) (pe_ix (kIxL K) (pe_dget hu (pv 0) pe_str (fun _ _ => rfl)) (pe_op op_mod (pe_callTy call_int1 (by rfl) B.int (by decide +kernel) (pa_cons (pv 2) pa_nil)) (pe_callB (kLen K) (by rfl) B.len (by decide +kernel) (pa_cons (pe_dget hu (pv 0) pe_str (fun _ _ => rfl)) pa_nil))) (fun _ _ => rfl)))) pss_nil)
      (pss_cons (ps_if (PW.pt (pw_and (pt_cmpR op_lt (pv 2) (pe_callB (kLen K) (by rfl) B.len (by decide +kernel) (pa_cons (pe_dget hu (pv 0) pe_str (fun _ _ => rfl)) pa_nil)) (nomark _)) (pw_and1 (pt_cmpR op_ge (pe_callB call_abs (by rfl) B.abs (by decide +kernel) (pa_cons (pv 3) pa_nil)) (pe_op op_pow pe_int pe_int) (nomark _))))) (pss_cons (ps_dput hu (pv 0) pe_str (pe_op op_fdiv (pe_op op_sub (pe_callB call_abs (by rfl) B.abs (by decide +kernel) (pa_cons (pv 3) pa_nil)) (pe_op op_pow pe_int pe_int)) (pv 1)) rfl)
      (pss_one (ps_ret (pe_op op_mod (pe_callTy call_int1 (by rfl) B.int (by decide +kernel) (pa_cons (pe_op op_sub (pe_callB call_abs (by rfl) B.abs (by decide +kernel) (pa_cons (pv 3) pa_nil)) (pe_op op_pow pe_int pe_int)) pa_nil)) (pv 1))))) pss_nil)
      (pss_cons (ps_set (i := 4) sc__law_draw.nd rfl (Or.inl rfl) (pe_lst (pa_cons pe_int (pa_cons pe_int (pa_cons pe_int (pa_cons pe_int (pa_cons pe_int pa_nil)))))))
      (pss_cons (ps_set (i := 5) sc__law_draw.nd rfl (Or.inl rfl) (pe_ix (kIxL K) (pv 4) (pe_op op_mod (pe_callTy call_int1 (by rfl) B.int (by decide +kernel) (pa_cons (pv 2) pa_nil)) pe_int) (fun _ _ => rfl)))
      (pss_cons (ps_set (i := 6) sc__law_draw.nd rfl (Or.inl rfl) (pe_op op_mod (pe_callTy call_int1 (by rfl) B.int (by decide +kernel) (pa_cons (pe_op op_add (pe_op op_add (pe_op op_mul (pe_op op_mod (pe_callTy call_int1 (by rfl) B.int (by decide +kernel) (pa_cons (pv 3) pa_nil)) (pv 5)) pe_int) (pe_op op_mul (pv 2) (pe_op op_add (pe_op op_mul pe_int (pv 2)) pe_int))) pe_int) pa_nil)) (pv 5)))
      (pss_cons (ps_set (i := 6) sc__law_draw.nd rfl (Or.inl rfl) (pe_op op_mod (pe_callTy call_int1 (by rfl) B.int (by decide +kernel) (pa_cons (pe_op op_mul (pv 6) (pe_op op_add (pv 6) pe_int)) pa_nil)) (pe_ix (kIxL K) (pv 4) (pe_op op_mod (pe_callTy call_int1 (by rfl) B.int (by decide +kernel) (pa_cons (pe_op op_add (pv 2) pe_int) pa_nil)) pe_int) (fun _ _ => rfl))))
      (pss_one (ps_ret (pe_op op_mod (pe_callTy call_int1 (by rfl) B.int (by decide +kernel) (pa_cons (pe_op op_fdiv (pe_op op_mod (pe_callTy call_int1 (by rfl) B.int (by decide +kernel) (pa_cons (pe_op op_add (pe_op op_add (pe_op op_mul (pv 6) (pv 6)) (pe_op op_mul pe_int (pv 6))) (pv 2)) pa_nil)) pe_int) pe_int) pa_nil)) (pv 1)))))))))))))), ?_⟩
    obtain ⟨cells, t, l, q1, q2, q3, q4, q5, q6⟩ := hp.ex
    have ncp : c ≠ p := ne_of q2 q1 (by intro z; cases z)
    refine ⟨_, rfl, p, _, rfl, dget_some (k := kL) q1 (pen_left c t l), _, _, rfl, rfl, _, rfl, ?_⟩
    refine ite2 (fun hl => ?_) (fun hl => ?_)
    · -- a digit is left
      refine ⟨_, rfl, p, _, rfl, dget_some (k := kL) q1 (pen_left c t l), .inl ⟨_, rfl, _, rfl, _, _, rfl, rfl, h0, ?_⟩⟩
      refine ⟨_, rfl, p, _, rfl, dget_some (k := kL) q1 (pen_left c t l), _, rfl, _, _, rfl, rfl, ⟨h0, by omega⟩, _, rfl, p, _, rfl, DPut.k (k := kL) q1 (pen_len _ _ _), ?_⟩
      rw [put_left]
      refine ⟨_, rfl, k _ _ (Int.emod_nonneg _ (by omega)) (Int.emod_lt_of_pos _ h0) (sm_pen q1) ⟨cells, t, l / span, upd_same, by rw [upd_ne ncp]; exact q2, q3, q4, by omega, Int.ediv_nonneg q6 (by omega)⟩⟩
    · -- the next cell
      refine ⟨_, rfl, p, _, rfl, dget_some (k := kT) q1 (pen_turn c t l), ?_⟩
      refine ⟨_, rfl, _, _, rfl, rfl, _, rfl, p, _, rfl, DPut.k (k := kT) q1 (pen_len _ _ _), ?_⟩
      rw [put_turn]
      have s1 : Sb p H (upd H p (.dK (penK c (t + 1) l))) := sm_pen q1
      have r1 : (upd H p (.dK (penK c (t + 1) l))) p = some (.dK (penK c (t + 1) l)) := upd_same
      have r2 : (upd H p (.dK (penK c (t + 1) l))) c = some (.lst (cells.map V.int)) := by rw [upd_ne ncp]; exact q2
      generalize upd H p (.dK (penK c (t + 1) l)) = H1 at s1 r1 r2 ⊢
      refine ⟨_, rfl, _, _, rfl, rfl, .inl ⟨by decide, by decide⟩, _, _, rfl, rfl, ?_⟩
      refine ⟨_, rfl, p, _, rfl, dget_some (k := kC) r1 (pen_cells c _ l), Nat.zero_le _, fun e he => ?_⟩
      refine ⟨.list (cells.map PyData.int), .list [], .lst (SqL.of (same_new he _ _ r2)) (dpAll_ints _), .lst (SqL.of upd_same) .nil, shaped_ints _, rfl, _, rfl, ?_⟩
      have s2 : Sb p H (upd H1 e (.lst [])) := s1.trans (.of (same_new he))
      have r3 := same_new (o := HO.lst []) he _ _ r1
      have r4 := same_new (o := HO.lst []) he _ _ r2
      generalize upd H1 e (.lst []) = H2 at s2 r3 r4 ⊢
      rw [eqv_nil]
      have hlen : (cells.map V.int).length = cells.length := List.length_map ..
      refine ite2 (fun hc => ?_) (fun hc => ?_)
      · have hpos : 0 < cells.length := by
          cases cells with
          | nil => cases hc
          | cons a b => exact Nat.succ_pos _
        obtain ⟨x, ex⟩ := at_mod (xs := cells) q4 hpos
        refine ⟨_, rfl, p, _, rfl, dget_some (k := kC) r3 (pen_cells c _ l), _, rfl, .inl ⟨_, rfl, _, rfl, p, _, rfl, dget_some (k := kC) r3 (pen_cells c _ l), c, _, rfl, .inl (SqL.of r4), _, _, rfl, rfl, by rw [hlen]; omega, c, _, _, _, rfl, rfl, SqL.of r4, by rw [hlen]; exact ex, ?_⟩⟩
        refine ⟨_, rfl, _, rfl, p, _, rfl, dget_some (k := kC) r3 (pen_cells c _ l), c, _, rfl, .inl (SqL.of r4), _, _, rfl, rfl, _, rfl, ?_⟩
        generalize x = cv
        refine ite_next ?_ (fun hN _ => ?_)
        · refine ⟨by decide, fun e2 he2 => ?_⟩
          have s3 : Sb p H (upd H2 e2 (.lst [V.int 2147483629, V.int 2147483647, V.int 2147483587, V.int 2147483563, V.int 2147483579])) := s2.trans (.of (same_new he2))
          have r5 := same_new (o := HO.lst [V.int 2147483629, V.int 2147483647, V.int 2147483587, V.int 2147483563, V.int 2147483579]) he2 _ _ r3
          have r6 := same_new (o := HO.lst [V.int 2147483629, V.int 2147483647, V.int 2147483587, V.int 2147483563, V.int 2147483579]) he2 _ _ r4
          have r7 : (upd H2 e2 (.lst [V.int 2147483629, V.int 2147483647, V.int 2147483587, V.int 2147483563, V.int 2147483579])) e2 = some (.lst [V.int 2147483629, V.int 2147483647, V.int 2147483587, V.int 2147483563, V.int 2147483579]) := upd_same
          generalize upd H2 e2 (.lst [V.int 2147483629, V.int 2147483647, V.int 2147483587, V.int 2147483563, V.int 2147483579]) = H3 at s3 r5 r6 r7 ⊢
          obtain ⟨pr, ep, hp0, hp1⟩ := primes_at (t % 5) (Int.emod_nonneg _ (by decide)) (Int.emod_lt_of_pos _ (by decide))
          obtain ⟨qr, eq, hq0, hq1⟩ := primes_at ((t + 2) % 5) (Int.emod_nonneg _ (by decide)) (Int.emod_lt_of_pos _ (by decide))
          have ht1 : -(2 ^ 64) < t := by omega
          have ht2 : t < 2 ^ 64 := by omega
          refine ⟨_, rfl, _, rfl, .inl ⟨_, rfl, _, _, rfl, rfl, (show (0 : Int) < 5 by decide), e2, _, _, _, rfl, rfl, SqL.of r7, ep, ?_⟩⟩
          refine ⟨_, rfl, .inl ⟨_, rfl, _, rfl, _, _, rfl, rfl, hp0, _, _, rfl, rfl, .inr ⟨by decide, by decide⟩, _, rfl, _, rfl, _, _, rfl, rfl, .inl ⟨by decide, by decide⟩, _, _, rfl, rfl, _, _, rfl, rfl, .inl ⟨ht1, ht2⟩, _, _, rfl, rfl, _, _, rfl, rfl, .inl ⟨_, rfl, _, rfl, _, _, rfl, rfl, hp0, ?_⟩⟩⟩
          refine ⟨_, rfl, _, rfl, _, _, rfl, rfl, _, _, rfl, rfl, .inl (mod_small hp0 hp1), .inl ⟨_, rfl, _, rfl, _, rfl, _, _, rfl, rfl, .inl ⟨_, rfl, _, _, rfl, rfl, (show (0 : Int) < 5 by decide), e2, _, _, _, rfl, rfl, SqL.of r7, eq, _, _, rfl, rfl, hq0, ?_⟩⟩⟩
          refine ⟨_, rfl, _, rfl, _, _, rfl, rfl, .inl (mod_small hq0 hq1), _, rfl, _, _, rfl, rfl, .inl ⟨by decide, by decide⟩, _, _, rfl, rfl, _, rfl, _, _, rfl, rfl, .inl ⟨_, rfl, _, _, rfl, rfl, (show (0 : Int) < 2147483549 by decide), _, _, rfl, rfl, ⟨by decide, by decide⟩, .inl ⟨_, rfl, _, rfl, _, _, rfl, rfl, h0, ?_⟩⟩⟩
          exact k _ _ (Int.emod_nonneg _ (by omega)) (Int.emod_lt_of_pos _ h0) s3 ⟨cells, t + 1, l, r5, r6, q3, by omega, by omega, q6⟩
        · refine ⟨_, rfl, _, rfl, _, _, rfl, rfl, ⟨by decide, by decide, by decide⟩, _, _, rfl, rfl, _, rfl, ?_⟩
          refine ite2 (fun hb => ?_) (fun _ => hN)
          have hb2 := of_decide_eq_true hb
          refine ⟨_, rfl, _, rfl, _, _, rfl, rfl, ⟨by decide, by decide, by decide⟩, _, _, rfl, rfl, _, rfl, _, _, rfl, rfl, ⟨h0, by omega⟩, _, rfl, p, _, rfl, DPut.k (k := kL) r3 (pen_len _ _ _), ?_⟩
          rw [put_left]
          refine ⟨_, rfl, _, rfl, _, _, rfl, rfl, ⟨by decide, by decide, by decide⟩, _, _, rfl, rfl, .inl ⟨_, rfl, _, rfl, _, _, rfl, rfl, h0, ?_⟩⟩
          exact k _ _ (Int.emod_nonneg _ (by omega)) (Int.emod_lt_of_pos _ h0) (s2.trans (sm_pen r3)) ⟨cells, t + 1, _, upd_same, by rw [upd_ne ncp]; exact r4, q3, by omega, by omega, Int.ediv_nonneg (Int.sub_nonneg_of_le hb2) (by omega)⟩
      · refine ⟨_, rfl, _, rfl, p, _, rfl, dget_some (k := kC) r3 (pen_cells c _ l), c, _, rfl, .inl (SqL.of r4), _, _, rfl, rfl, _, rfl, ?_⟩
        refine ite_next ?_ (fun hN _ => ?_)
        · refine ⟨by decide, fun e2 he2 => ?_⟩
          have s3 : Sb p H (upd H2 e2 (.lst [V.int 2147483629, V.int 2147483647, V.int 2147483587, V.int 2147483563, V.int 2147483579])) := s2.trans (.of (same_new he2))
          have r5 := same_new (o := HO.lst [V.int 2147483629, V.int 2147483647, V.int 2147483587, V.int 2147483563, V.int 2147483579]) he2 _ _ r3
          have r6 := same_new (o := HO.lst [V.int 2147483629, V.int 2147483647, V.int 2147483587, V.int 2147483563, V.int 2147483579]) he2 _ _ r4
          have r7 : (upd H2 e2 (.lst [V.int 2147483629, V.int 2147483647, V.int 2147483587, V.int 2147483563, V.int 2147483579])) e2 = some (.lst [V.int 2147483629, V.int 2147483647, V.int 2147483587, V.int 2147483563, V.int 2147483579]) := upd_same
          generalize upd H2 e2 (.lst [V.int 2147483629, V.int 2147483647, V.int 2147483587, V.int 2147483563, V.int 2147483579]) = H3 at s3 r5 r6 r7 ⊢
          obtain ⟨pr, ep, hp0, hp1⟩ := primes_at (t % 5) (Int.emod_nonneg _ (by decide)) (Int.emod_lt_of_pos _ (by decide))
          obtain ⟨qr, eq, hq0, hq1⟩ := primes_at ((t + 2) % 5) (Int.emod_nonneg _ (by decide)) (Int.emod_lt_of_pos _ (by decide))
          have ht1 : -(2 ^ 64) < t := by omega
          have ht2 : t < 2 ^ 64 := by omega
          refine ⟨_, rfl, _, rfl, .inl ⟨_, rfl, _, _, rfl, rfl, (show (0 : Int) < 5 by decide), e2, _, _, _, rfl, rfl, SqL.of r7, ep, ?_⟩⟩
          refine ⟨_, rfl, .inl ⟨_, rfl, _, rfl, _, _, rfl, rfl, hp0, _, _, rfl, rfl, .inr ⟨by decide, by decide⟩, _, rfl, _, rfl, _, _, rfl, rfl, .inl ⟨by decide, by decide⟩, _, _, rfl, rfl, _, _, rfl, rfl, .inl ⟨ht1, ht2⟩, _, _, rfl, rfl, _, _, rfl, rfl, .inl ⟨_, rfl, _, rfl, _, _, rfl, rfl, hp0, ?_⟩⟩⟩
          refine ⟨_, rfl, _, rfl, _, _, rfl, rfl, _, _, rfl, rfl, .inl (mod_small hp0 hp1), .inl ⟨_, rfl, _, rfl, _, rfl, _, _, rfl, rfl, .inl ⟨_, rfl, _, _, rfl, rfl, (show (0 : Int) < 5 by decide), e2, _, _, _, rfl, rfl, SqL.of r7, eq, _, _, rfl, rfl, hq0, ?_⟩⟩⟩
          refine ⟨_, rfl, _, rfl, _, _, rfl, rfl, .inl (mod_small hq0 hq1), _, rfl, _, _, rfl, rfl, .inl ⟨by decide, by decide⟩, _, _, rfl, rfl, _, rfl, _, _, rfl, rfl, .inl ⟨_, rfl, _, _, rfl, rfl, (show (0 : Int) < 2147483549 by decide), _, _, rfl, rfl, ⟨by decide, by decide⟩, .inl ⟨_, rfl, _, rfl, _, _, rfl, rfl, h0, ?_⟩⟩⟩
          exact k _ _ (Int.emod_nonneg _ (by omega)) (Int.emod_lt_of_pos _ h0) s3 ⟨cells, t + 1, l, r5, r6, q3, by omega, by omega, q6⟩
        · refine ⟨_, rfl, _, rfl, _, _, rfl, rfl, ⟨by decide, by decide, by decide⟩, _, _, rfl, rfl, _, rfl, ?_⟩
          refine ite2 (fun hb => ?_) (fun _ => hN)
          have hb2 := of_decide_eq_true hb
          refine ⟨_, rfl, _, rfl, _, _, rfl, rfl, ⟨by decide, by decide, by decide⟩, _, _, rfl, rfl, _, rfl, _, _, rfl, rfl, ⟨h0, by omega⟩, _, rfl, p, _, rfl, DPut.k (k := kL) r3 (pen_len _ _ _), ?_⟩
          rw [put_left]
          refine ⟨_, rfl, _, rfl, _, _, rfl, rfl, ⟨by decide, by decide, by decide⟩, _, _, rfl, rfl, .inl ⟨_, rfl, _, rfl, _, _, rfl, rfl, h0, ?_⟩⟩
          exact k _ _ (Int.emod_nonneg _ (by omega)) (Int.emod_lt_of_pos _ h0) (s2.trans (sm_pen r3)) ⟨cells, t + 1, _, upd_same, by rw [upd_ne ncp]; exact r4, q3, by omega, by omega, Int.ediv_nonneg (Int.sub_nonneg_of_le hb2) (by omega)⟩
theorem ok__law_pen (A : All P K mg cs) : FnOk P w K mg base (L2.CX P w) 1 A.a__law_pen A.d__law_pen p__law_pen (spM true 1 (m__law_pen K)) := (FnOk.calm (ok_pen0 A.F__law_pen ⟨A.b_len, A.b_list, A.b_int, A.b_abs⟩)).imp fun _ _ _ _ => pen_sp
theorem ok__law_draw (A : All P K mg cs) : FnOk P w K mg base (L2.CX P w) 1 A.a__law_draw A.d__law_draw p__law_draw (spM true 2 m__law_draw) := (FnOk.calm (ok_draw0 A.F__law_draw ⟨A.b_len, A.b_list, A.b_int, A.b_abs⟩)).imp fun _ _ _ _ => draw_sp
end
end Q
namespace Q
open PySem L2 PySem.Spec PyProof.Rows NdefX LamX
section
variable {P : Program} {w : World} {K : PySem.W.Frag} {mg : Str → Option Value} {base : Heap} {cs : Cs}
/-! InvalidTemplate.__init__ -/
theorem ok_InvalidTemplate___init__ (A : All P K mg cs) : FnOk P w K mg base (L2.CX P w) 1 A.a_InvalidTemplate___init__ A.d_InvalidTemplate___init__ p_InvalidTemplate___init__ (spE cs.InvalidTemplate ["index"]) :=
  fnE A.F_InvalidTemplate___init__ sc_InvalidTemplate___init__ (fun vs H Q E ⟨a, ws, e, l, _⟩ => by subst e; exact congrArg Nat.succ l) fun A' outer s H vs Q E hr h => ⟨_, psat_supE A.e_InvalidTemplate.T (supEAt A.F_InvalidTemplate___init__ A.e_InvalidTemplate.S ⟨_, rfl, rfl⟩ rfl rfl rfl rfl rfl) (pa_cons (pv 1) pa_nil) (PSat.cons (ps_setE (pv 0) (pv 1)) (PSat.of pss_nil)) rfl rfl, spE1_go h A.e_InvalidTemplate.T (A.e_InvalidTemplate.tk _ (by decide))⟩
/-! is_integer -/
def b_is_integer (K : PySem.W.Frag) (cs : Cs) : Sx :=
    (sRet (xU (xAnd (xF (xB (isiG K) (xCons (xV 0) (xCons (xC (.ty "int")) xNil)))) (xNot (xF (xB (isiG K) (xCons (xV 0) (xCons (xC (.ty "bool")) xNil))))))))
def m_is_integer (K : PySem.W.Frag) (cs : Cs) : MF := mk false 1 (b_is_integer K cs)
theorem ok_is_integer (A : All P K mg cs) : FnOk P w K mg base (L2.CX P w) 1 A.a_is_integer A.d_is_integer p_is_integer (spM false 1 (m_is_integer K cs)) := by
  refine fnM A.F_is_integer sc_is_integer (by decide) fun cdv A' outer s H E hr => ?_
  have hu := hu_of hr
  have hu0 := hr.units0
  have hu64 := hr.units
  have hu65 := hr.u65
  exact (pxb_one (pxs_ret (po_U (px_and (px_F (po_b (g_isi K) (fun h => pe_callB (cIsi K) (by rfl) A.b_isinstance (by decide +kernel) h) (pxa_cons (px_var (pv 0)) (pxa_cons (px_C (pe_bltn (v := .ty "int") (by rfl) A.b_int (by decide +kernel) rfl) fun _ _ _ => .ty _) pxa_nil)))) (px_one (px_not (px_F (po_b (g_isi K) (fun h => pe_callB (cIsi K) (by rfl) A.b_isinstance (by decide +kernel) h) (pxa_cons (px_var (pv 0)) (pxa_cons (px_C (pe_bltn (v := .ty "bool") (by rfl) A.b_bool (by decide +kernel) rfl) fun _ _ _ => .ty _) pxa_nil))))))))))
/-! is_within -/
def b_is_within (K : PySem.W.Frag) (cs : Cs) : Sx :=
    (sRet (xU (xAnd (xF (xP 1 (m_is_integer K cs) (xCons (xV 0) xNil))) (xF (xCh leG leG (xV 1) (xV 0) (xV 2))))))
def m_is_within (K : PySem.W.Frag) (cs : Cs) : MF := mk false 3 (b_is_within K cs)
theorem ok_is_within (A : All P K mg cs) : FnOk P w K mg base (L2.CX P w) 2 A.a_is_within A.d_is_within p_is_within (spM false 3 (m_is_within K cs)) := by
  refine fnM A.F_is_within sc_is_within (by decide) fun cdv A' outer s H E hr => ?_
  have hu := hu_of hr
  have hu0 := hr.units0
  have hu64 := hr.units
  have hu65 := hr.u65
  exact (pxb_one (pxs_ret (po_U (px_and (px_F (po_P (call_sp (ok_is_integer A) (hr.mono (by decide)) rfl A.D_is_integer.m A.D_is_integer.k A.D_is_integer.b) (pxa_cons (px_var (pv 0)) pxa_nil))) (px_one (px_F (po_ch g_le g_le (fun h1 h2 h3 => pe_chain op_le op_le h1 h2 h3) (px_var (pv 1)) (px_var (pv 0)) (px_var (pv 2)))))))))
/-! is_word -/
def b_is_word (K : PySem.W.Frag) (cs : Cs) : Sx :=
    (sRet (xU (xAnd (xF (xB (isiG K) (xCons (xV 0) (xCons (xC (.ty "str")) xNil)))) (xAnd (xF (xCh leG leG (xC (.int 1)) (xF (xB lenG (xCons (xV 0) xNil))) (xC (.int 8)))) (xF (xB allG (xCons (xF (xLc (iA (xV 0)) (gN 1) xYes (xF (xOp (inG false) (xV 1) (xC (.str "abcdefghijklmnopqrstuvwxyz")))) [1])) xNil)))))))
def m_is_word (K : PySem.W.Frag) (cs : Cs) : MF := mk false 2 (b_is_word K cs)
theorem ok_is_word (A : All P K mg cs) : FnOk P w K mg base (L2.CX P w) 1 A.a_is_word A.d_is_word p_is_word (spM false 1 (m_is_word K cs)) := by
  refine fnM A.F_is_word sc_is_word (by decide) fun cdv A' outer s H E hr => ?_
  have hu := hu_of hr
  have hu0 := hr.units0
  have hu64 := hr.units
  have hu65 := hr.u65
  exact (pxb_one (pxs_ret (po_U (px_and (px_F (po_b (g_isi K) (fun h => pe_callB (cIsi K) (by rfl) A.b_isinstance (by decide +kernel) h) (pxa_cons (px_var (pv 0)) (pxa_cons (px_C (pe_bltn (v := .ty "str") (by rfl) A.b_str (by decide +kernel) rfl) fun _ _ _ => .ty _) pxa_nil)))) (px_and (px_F (po_ch g_le g_le (fun h1 h2 h3 => pe_chain op_le op_le h1 h2 h3) px_int (px_F (po_b (g_len K) (fun h => pe_callB (cLen K) (by rfl) A.b_len (by decide +kernel) h) (pxa_cons (px_var (pv 0)) pxa_nil))) (px_C (pe_glob (v := .int 8) (by rfl) A.k_MAX_WORD.choose_spec ⟨_, rfl⟩) fun _ _ _ => .int _))) (px_one (px_F (po_b (g_all K) (fun h => pe_callB (kAll K rfl) (by rfl) A.b_all (by decide +kernel) h) (pxa_cons (px_F (po_lc (own := [("letter", 1)]) (is := [1]) rfl sc_is_word.nd (pxi_any (px_var (pv 0))) (blkOk_by (own := [("letter", 1)]) (N := N_is_word) (sc := defScope s_is_word) (by decide +kernel)) (by decide) (fun _ _ _ _ _ => (pxg_name (pg_name (i := 1) sc_is_word.nd rfl (Or.inl rfl)))) (fun _ _ _ _ _ => pxts_nil) (fun _ _ _ _ _ => (px_F (po_2 (g_inG K) (fun h1 h2 => pe_cmpR (op_inX K hu65) h1 h2 rfl) (px_var (pv 1)) (px_C (pe_glob (v := .str "abcdefghijklmnopqrstuvwxyz") (by rfl) A.k_SMALL.choose_spec ⟨_, rfl⟩) fun _ _ _ => .str _)))))) pxa_nil)))))))))
/-! is_list -/
def b_is_list (K : PySem.W.Frag) (cs : Cs) : Sx :=
    (sRet (xU (xF (xB (isiG K) (xCons (xV 0) (xCons (xF (xTup (xCons (xC (.ty "list")) (xCons (xC (.ty "tuple")) xNil)))) xNil))))))
def m_is_list (K : PySem.W.Frag) (cs : Cs) : MF := mk false 1 (b_is_list K cs)
theorem ok_is_list (A : All P K mg cs) : FnOk P w K mg base (L2.CX P w) 1 A.a_is_list A.d_is_list p_is_list (spM false 1 (m_is_list K cs)) := by
  refine fnM A.F_is_list sc_is_list (by decide) fun cdv A' outer s H E hr => ?_
  have hu := hu_of hr
  have hu0 := hr.units0
  have hu64 := hr.units
  have hu65 := hr.u65
  exact (pxb_one (pxs_ret (po_U (px_F (po_b (g_isi K) (fun h => pe_callB (cIsi K) (by rfl) A.b_isinstance (by decide +kernel) h) (pxa_cons (px_var (pv 0)) (pxa_cons (px_F (po_tup (pxa_cons (px_C (pe_bltn (v := .ty "list") (by rfl) A.b_list (by decide +kernel) rfl) fun _ _ _ => .ty _) (pxa_cons (px_C (pe_bltn (v := .ty "tuple") (by rfl) A.b_tuple (by decide +kernel) rfl) fun _ _ _ => .ty _) pxa_nil)))) pxa_nil)))))))
/-! is_cell -/
def b_is_cell (K : PySem.W.Frag) (cs : Cs) : Sx :=
    (sRet (xU (xOr (xF (xP 3 (m_is_within K cs) (xCons (xV 0) (xCons (xC (.int 0)) (xCons (xF (xOp subG (xC (.int 4)) (xC (.int 1)))) xNil))))) (xF (xP 1 (m_is_word K cs) (xCons (xV 0) xNil))))))
def m_is_cell (K : PySem.W.Frag) (cs : Cs) : MF := mk false 1 (b_is_cell K cs)
theorem ok_is_cell (A : All P K mg cs) : FnOk P w K mg base (L2.CX P w) 3 A.a_is_cell A.d_is_cell p_is_cell (spM false 1 (m_is_cell K cs)) := by
  refine fnM A.F_is_cell sc_is_cell (by decide) fun cdv A' outer s H E hr => ?_
  have hu := hu_of hr
  have hu0 := hr.units0
  have hu64 := hr.units
  have hu65 := hr.u65
  exact (pxb_one (pxs_ret (po_U (px_or (px_F (po_P (call_sp (ok_is_within A) (hr.mono (by decide)) rfl A.D_is_within.m A.D_is_within.k A.D_is_within.b) (pxa_cons (px_var (pv 0)) (pxa_cons px_int (pxa_cons (px_F (po_2 g_sub (fun h1 h2 => pe_op op_sub h1 h2) (px_C (pe_glob (v := .int 4) (by rfl) A.k_MAX_NAMES.choose_spec ⟨_, rfl⟩) fun _ _ _ => .int _) px_int)) pxa_nil))))) (px_one (px_F (po_P (call_sp (ok_is_word A) (hr.mono (by decide)) rfl A.D_is_word.m A.D_is_word.k A.D_is_word.b) (pxa_cons (px_var (pv 0)) pxa_nil))))))))
/-! is_entry -/
def b_is_entry (K : PySem.W.Frag) (cs : Cs) : Sx :=
    (sSeq (sIf (xOrT (xNotT (xT (xF (xB (isiG K) (xCons (xV 0) (xCons (xC (.ty "tuple")) xNil)))))) (xOrT (xTO (xOp neG (xF (xB lenG (xCons (xV 0) xNil))) (xC (.int 2)))) (xNotT (xT (xF (xP 1 (m_is_word K cs) (xCons (xF (xOp ixD (xV 0) (xC (.int 0)))) xNil))))))) (sRet (xU (xC (.bl false)))) sNx)
    (sSeq (sSet 1 (xOp ixD (xV 0) (xC (.int 1))))
    (sRet (xU (xAnd (xF (xB (isiG K) (xCons (xV 1) (xCons (xC (.ty "tuple")) xNil)))) (xAnd (xF (xCh leG leG (xC (.int 1)) (xF (xB lenG (xCons (xV 1) xNil))) (xC (.int 3)))) (xF (xB allG (xCons (xF (xLc (iA (xV 1)) (gN 2) xYes (xF (xP 1 (m_is_cell K cs) (xCons (xV 2) xNil))) [2])) xNil)))))))))
def m_is_entry (K : PySem.W.Frag) (cs : Cs) : MF := mk false 3 (b_is_entry K cs)
theorem ok_is_entry (A : All P K mg cs) : FnOk P w K mg base (L2.CX P w) 4 A.a_is_entry A.d_is_entry p_is_entry (spM false 1 (m_is_entry K cs)) := by
  refine fnM A.F_is_entry sc_is_entry (by decide) fun cdv A' outer s H E hr => ?_
  have hu := hu_of hr
  have hu0 := hr.units0
  have hu64 := hr.units
  have hu65 := hr.u65
  exact (pxb_cons (pxs_if (pxw_t (pxw_or (pxt_not (pxt_val (px_F (po_b (g_isi K) (fun h => pe_callB (cIsi K) (by rfl) A.b_isinstance (by decide +kernel) h) (pxa_cons (px_var (pv 0)) (pxa_cons (px_C (pe_bltn (v := .ty "tuple") (by rfl) A.b_tuple (by decide +kernel) rfl) fun _ _ _ => .ty _) pxa_nil)))))) (pxw_or (pxt_2 (g_ne K) (fun h1 h2 => pt_cmpR (kNeD K hu64) h1 h2 (nomark _)) (px_F (po_b (g_len K) (fun h => pe_callB (cLen K) (by rfl) A.b_len (by decide +kernel) h) (pxa_cons (px_var (pv 0)) pxa_nil))) px_int) (pxw_or1 (pxt_not (pxt_val (px_F (po_P (call_sp (ok_is_word A) (hr.mono (by decide)) rfl A.D_is_word.m A.D_is_word.k A.D_is_word.b) (pxa_cons (px_F (po_2 (g_ix K) (fun h1 h2 => pe_ix (ixA K) h1 h2 (fun _ _ => rfl)) (px_var (pv 0)) px_int)) pxa_nil))))))))) (pxb_one (pxs_ret (po_U px_bl))) pxb_nil)
      (pxb_cons (pxs_set (fun h => ps_set (i := 1) sc_is_entry.nd rfl (Or.inl rfl) h) (po_2 (g_ix K) (fun h1 h2 => pe_ix (ixA K) h1 h2 (fun _ _ => rfl)) (px_var (pv 0)) px_int))
      (pxb_one (pxs_ret (po_U (px_and (px_F (po_b (g_isi K) (fun h => pe_callB (cIsi K) (by rfl) A.b_isinstance (by decide +kernel) h) (pxa_cons (px_var (pv 1)) (pxa_cons (px_C (pe_bltn (v := .ty "tuple") (by rfl) A.b_tuple (by decide +kernel) rfl) fun _ _ _ => .ty _) pxa_nil)))) (px_and (px_F (po_ch g_le g_le (fun h1 h2 h3 => pe_chain op_le op_le h1 h2 h3) px_int (px_F (po_b (g_len K) (fun h => pe_callB (cLen K) (by rfl) A.b_len (by decide +kernel) h) (pxa_cons (px_var (pv 1)) pxa_nil))) (px_C (pe_glob (v := .int 3) (by rfl) A.k_MAX_COLUMNS.choose_spec ⟨_, rfl⟩) fun _ _ _ => .int _))) (px_one (px_F (po_b (g_all K) (fun h => pe_callB (kAll K rfl) (by rfl) A.b_all (by decide +kernel) h) (pxa_cons (px_F (po_lc (own := [("cell", 2)]) (is := [2]) rfl sc_is_entry.nd (pxi_any (px_var (pv 1))) (blkOk_by (own := [("cell", 2)]) (N := N_is_entry) (sc := defScope s_is_entry) (by decide +kernel)) (by decide) (fun _ _ _ _ _ => (pxg_name (pg_name (i := 2) sc_is_entry.nd rfl (Or.inl rfl)))) (fun _ _ _ _ _ => pxts_nil) (fun _ _ _ _ _ => (px_F (po_P (call_sp (ok_is_cell A) (hr.mono (by decide)) rfl A.D_is_cell.m A.D_is_cell.k A.D_is_cell.b) (pxa_cons (px_var (pv 2)) pxa_nil)))))) pxa_nil)))))))))))
/-! parameters_in -/
def b_parameters_in (K : PySem.W.Frag) (cs : Cs) : Sx :=
    (sRet (xU (xF (xSortSc2 (iA (xV 0)) (gT 2 (gsC (gN 2) (gsC (gN 3) gsN))) (iA (xV 3)) (gN 1) (xT (xF (xP 1 (m_is_integer K cs) (xCons (xV 1) xNil)))) (xV 1) [2, 3, 1] [1]))))
def m_parameters_in (K : PySem.W.Frag) (cs : Cs) : MF := mk false 4 (b_parameters_in K cs)
theorem ok_parameters_in (A : All P K mg cs) : FnOk P w K mg base (L2.CX P w) 2 A.a_parameters_in A.d_parameters_in p_parameters_in (spM false 1 (m_parameters_in K cs)) := by
  refine fnM A.F_parameters_in sc_parameters_in (by decide) fun cdv A' outer s H E hr => ?_
  have hu := hu_of hr
  have hu0 := hr.units0
  have hu64 := hr.units
  have hu65 := hr.u65
  exact (pxb_one (pxs_ret (po_U (px_F (po_sortSc2 (mine := [("table", 2), ("cells", 3), ("cell", 1)]) (vs1 := [1]) (is := [2, 3]) (is1 := [1]) rfl sc_parameters_in.nd (by rfl) A.b_sorted (pxi_any (px_var (pv 0))) (blkOk_by (own := [("table", 2), ("cells", 3), ("cell", 1)]) (N := N_parameters_in) (sc := defScope s_parameters_in) (by decide +kernel)) (by decide) (by decide) (by decide) (fun _ _ _ _ _ => (pxg_tup rfl (pxgs_cons (pxg_name (pg_name (i := 2) sc_parameters_in.nd rfl (Or.inl rfl))) (pxgs_cons (pxg_name (pg_name (i := 3) sc_parameters_in.nd rfl (Or.inl rfl))) pxgs_nil)))) (fun _ _ _ _ _ => (pxi_any (px_var (pv 3)))) (fun _ _ _ _ _ => (pxg_name (pg_name (i := 1) sc_parameters_in.nd rfl (Or.inl rfl)))) (fun _ _ _ _ _ => (pxts_one (pxt_val (px_F (po_P (call_sp (ok_is_integer A) (hr.mono (by decide)) rfl A.D_is_integer.m A.D_is_integer.k A.D_is_integer.b) (pxa_cons (px_var (pv 1)) pxa_nil)))))) (fun _ _ _ _ _ => (px_var (pv 1))))))))
/-! Template.__init__ -/
def b_Template___init__ (K : PySem.W.Frag) (cs : Cs) : Sx :=
    (sSeq (sIf (xOrT (xNotT (xT (xF (xP 1 (m_is_list K cs) (xCons (xV 1) xNil))))) (xNotT (xT (xF (xP 1 (m_is_list K cs) (xCons (xV 2) xNil)))))) (sRaise cs.InvalidTemplate ["index"] (xCons (xC .non) xNil)) sNx)
    (sSeq (sSet 3 (xOp addG (xF (xB listG (xCons (xV 1) xNil))) (xF (xB listG (xCons (xV 2) xNil)))))
    (sSeq (sFor (iEn (xCons (xV 3) xNil)) (gT 2 (gsC (gN 5) (gsC (gN 6) gsN))) (sIf (xNotT (xT (xF (xP 1 (m_is_entry K cs) (xCons (xV 6) xNil))))) (sRaise cs.InvalidTemplate ["index"] (xCons (xV 5) xNil)) sNx))
    (sSeq (sSet 4 (xP 1 (m_parameters_in K cs) (xCons (xV 3) xNil)))
    (sSeq (sIf (xTO (xOp neG (xV 4) (xF (xLstRg (xF (xB lenG (xCons (xV 4) xNil))))))) (sRaise cs.InvalidTemplate ["index"] (xCons (xC .non) xNil)) sNx)
    (sSeq (sFldI K 0 "own_put" (xB tupG (xCons (xV 1) xNil)))
    (sSeq (sFldI K 0 "own_taken" (xB tupG (xCons (xV 2) xNil)))
    (sFldI K 0 "many" (xB lenG (xCons (xV 4) xNil))))))))))
def i_Template___init__ (K : PySem.W.Frag) (cs : Cs) : MI := mkI cs.Template false 7 (b_Template___init__ K cs)
theorem ok_Template___init__ (A : All P K mg cs) : FnOk P w K mg base (L2.CX P w) 5 A.a_Template___init__ A.d_Template___init__ p_Template___init__ (spI cs.Template false 2 (i_Template___init__ K cs)) := by
  refine fnI A.F_Template___init__ sc_Template___init__ rfl (by decide) fun cdv A' outer s H E hr => ?_
  have hu := hu_of hr
  have hu0 := hr.units0
  have hu64 := hr.units
  have hu65 := hr.u65
  exact (pxb_cons (pxs_if (pxw_t (pxw_or (pxt_not (pxt_val (px_F (po_P (call_sp (ok_is_list A) (hr.mono (by decide)) rfl A.D_is_list.m A.D_is_list.k A.D_is_list.b) (pxa_cons (px_var (pv 1)) pxa_nil))))) (pxw_or1 (pxt_not (pxt_val (px_F (po_P (call_sp (ok_is_list A) (hr.mono (by decide)) rfl A.D_is_list.m A.D_is_list.k A.D_is_list.b) (pxa_cons (px_var (pv 2)) pxa_nil)))))))) (pxb_one (pxs_raise A.e_InvalidTemplate.T A.e_InvalidTemplate.hi A.e_InvalidTemplate.hf (ok_InvalidTemplate___init__ A) (hr.mono (by decide)) A.e_InvalidTemplate.hb rfl A.e_InvalidTemplate.hm rfl (pxa_cons px_non pxa_nil))) pxb_nil)
      (pxb_cons (pxs_set (fun h => ps_set (i := 3) sc_Template___init__.nd rfl (Or.inl rfl) h) (po_2 (g_add K) (fun h1 h2 => pe_op (op_addA K) h1 h2) (px_F (po_b (g_list K) (fun h => pe_callTy (kList K) (by rfl) A.b_list (by decide +kernel) h) (pxa_cons (px_var (pv 1)) pxa_nil))) (px_F (po_b (g_list K) (fun h => pe_callTy (kList K) (by rfl) A.b_list (by decide +kernel) h) (pxa_cons (px_var (pv 2)) pxa_nil)))))
      (pxb_cons (pxs_for (fun h1 h2 h3 => ps_for (passes_of rfl) rfl h1 h2 h3) (pxi_en (fun h => pi_enum (by rfl) A.b_enumerate h) (pxa_cons (px_var (pv 3)) pxa_nil)) (pxg_tup rfl (pxgs_cons (pxg_name (pg_name (i := 5) sc_Template___init__.nd rfl (Or.inl rfl))) (pxgs_cons (pxg_name (pg_name (i := 6) sc_Template___init__.nd rfl (Or.inl rfl))) pxgs_nil))) (pxb_one (pxs_if (pxt_not (pxt_val (px_F (po_P (call_sp (ok_is_entry A) (hr.mono (by decide)) rfl A.D_is_entry.m A.D_is_entry.k A.D_is_entry.b) (pxa_cons (px_var (pv 6)) pxa_nil))))) (pxb_one (pxs_raise A.e_InvalidTemplate.T A.e_InvalidTemplate.hi A.e_InvalidTemplate.hf (ok_InvalidTemplate___init__ A) (hr.mono (by decide)) A.e_InvalidTemplate.hb rfl A.e_InvalidTemplate.hm rfl (pxa_cons (px_var (pv 5)) pxa_nil))) pxb_nil)))
      (pxb_cons (pxs_set (fun h => ps_set (i := 4) sc_Template___init__.nd rfl (Or.inl rfl) h) (po_P (call_sp (ok_parameters_in A) (hr.mono (by decide)) rfl A.D_parameters_in.m A.D_parameters_in.k A.D_parameters_in.b) (pxa_cons (px_var (pv 3)) pxa_nil)))
      (pxb_cons (pxs_if (pxt_2 (g_ne K) (fun h1 h2 => pt_cmpR (kNeD K hu64) h1 h2 (nomark _)) (px_var (pv 4)) (px_F (po_lstRg (fun h => pe_listRg rfl (by rfl) A.b_list (prg_1 (by rfl) A.b_range h)) (px_F (po_b (g_len K) (fun h => pe_callB (cLen K) (by rfl) A.b_len (by decide +kernel) h) (pxa_cons (px_var (pv 4)) pxa_nil)))))) (pxb_one (pxs_raise A.e_InvalidTemplate.T A.e_InvalidTemplate.hi A.e_InvalidTemplate.hf (ok_InvalidTemplate___init__ A) (hr.mono (by decide)) A.e_InvalidTemplate.hb rfl A.e_InvalidTemplate.hm rfl (pxa_cons px_non pxa_nil))) pxb_nil)
      (pxb_cons (pxs_fldI (K := K) (fun h => ps_fld (pv 0) h rfl) (po_b (g_tup K) (fun h => pe_callTy (cTuple K rfl) (by rfl) A.b_tuple (by decide +kernel) h) (pxa_cons (px_var (pv 1)) pxa_nil)))
      (pxb_cons (pxs_fldI (K := K) (fun h => ps_fld (pv 0) h rfl) (po_b (g_tup K) (fun h => pe_callTy (cTuple K rfl) (by rfl) A.b_tuple (by decide +kernel) h) (pxa_cons (px_var (pv 2)) pxa_nil)))
      (pxb_one (pxs_fldI (K := K) (fun h => ps_fld (pv 0) h rfl) (po_b (g_len K) (fun h => pe_callB (cLen K) (by rfl) A.b_len (by decide +kernel) h) (pxa_cons (px_var (pv 4)) pxa_nil)))))))))))
/-! Template.__eq__ -/
def b_Template___eq__ (K : PySem.W.Frag) (cs : Cs) : Sx :=
    (sSeq (sIf (xNotT (xT (xF (xB (isiG K) (xCons (xV 1) (xCons (xC (.cls cs.Template)) xNil)))))) (sRet (xU (xC (.bl false)))) sNx)
    (sRet (xU (xAnd (xF (xOp eqG (xF (xUn (fldG K "own_put") (xV 0))) (xF (xUn (fldG K "own_put") (xV 1))))) (xF (xOp eqG (xF (xUn (fldG K "own_taken") (xV 0))) (xF (xUn (fldG K "own_taken") (xV 1)))))))))
def m_Template___eq__ (K : PySem.W.Frag) (cs : Cs) : MF := mk false 2 (b_Template___eq__ K cs)
theorem ok_Template___eq__ (A : All P K mg cs) : FnOk P w K mg base (L2.CX P w) 1 A.a_Template___eq__ A.d_Template___eq__ p_Template___eq__ (spM false 2 (m_Template___eq__ K cs)) := by
  refine fnM A.F_Template___eq__ sc_Template___eq__ (by decide) fun cdv A' outer s H E hr => ?_
  have hu := hu_of hr
  have hu0 := hr.units0
  have hu64 := hr.units
  have hu65 := hr.u65
  exact (pxb_cons (pxs_if (pxt_not (pxt_val (px_F (po_b (g_isi K) (fun h => pe_callB (cIsi K) (by rfl) A.b_isinstance (by decide +kernel) h) (pxa_cons (px_var (pv 1)) (pxa_cons (px_C (pe_glob (v := .ref cs.Template) (by rfl) A.g_Template rfl) fun _ _ _ => .cls _) pxa_nil)))))) (pxb_one (pxs_ret (po_U px_bl))) pxb_nil)
      (pxb_one (pxs_ret (po_U (px_and (px_F (po_2 (g_eq K) (fun h1 h2 => pe_cmpR (kEqD K hu64) h1 h2 (nomark _)) (px_F (po_1 (g_fld K "own_put") (fun h => kFld K h rfl) (px_var (pv 0)))) (px_F (po_1 (g_fld K "own_put") (fun h => kFld K h rfl) (px_var (pv 1)))))) (px_one (px_F (po_2 (g_eq K) (fun h1 h2 => pe_cmpR (kEqD K hu64) h1 h2 (nomark _)) (px_F (po_1 (g_fld K "own_taken") (fun h => kFld K h rfl) (px_var (pv 0)))) (px_F (po_1 (g_fld K "own_taken") (fun h => kFld K h rfl) (px_var (pv 1))))))))))))
/-! Template.put_rows -/
def b_Template_put_rows (K : PySem.W.Frag) (cs : Cs) : Sx :=
    (sRet (xU (xF (xUn (fldG K "own_put") (xV 0)))))
def m_Template_put_rows (K : PySem.W.Frag) (cs : Cs) : MF := mk false 1 (b_Template_put_rows K cs)
theorem ok_Template_put_rows (A : All P K mg cs) : FnOk P w K mg base (L2.CX P w) 1 A.a_Template_put_rows A.d_Template_put_rows p_Template_put_rows (spM false 1 (m_Template_put_rows K cs)) := by
  refine fnM A.F_Template_put_rows sc_Template_put_rows (by decide) fun cdv A' outer s H E hr => ?_
  have hu := hu_of hr
  have hu0 := hr.units0
  have hu64 := hr.units
  have hu65 := hr.u65
  exact (pxb_one (pxs_ret (po_U (px_F (po_1 (g_fld K "own_put") (fun h => kFld K h rfl) (px_var (pv 0)))))))
/-! Template.taken_rows -/
def b_Template_taken_rows (K : PySem.W.Frag) (cs : Cs) : Sx :=
    (sRet (xU (xF (xUn (fldG K "own_taken") (xV 0)))))
def m_Template_taken_rows (K : PySem.W.Frag) (cs : Cs) : MF := mk false 1 (b_Template_taken_rows K cs)
theorem ok_Template_taken_rows (A : All P K mg cs) : FnOk P w K mg base (L2.CX P w) 1 A.a_Template_taken_rows A.d_Template_taken_rows p_Template_taken_rows (spM false 1 (m_Template_taken_rows K cs)) := by
  refine fnM A.F_Template_taken_rows sc_Template_taken_rows (by decide) fun cdv A' outer s H E hr => ?_
  have hu := hu_of hr
  have hu0 := hr.units0
  have hu64 := hr.units
  have hu65 := hr.u65
  exact (pxb_one (pxs_ret (po_U (px_F (po_1 (g_fld K "own_taken") (fun h => kFld K h rfl) (px_var (pv 0)))))))
/-! Template.parameters -/
def b_Template_parameters (K : PySem.W.Frag) (cs : Cs) : Sx :=
    (sRet (xU (xF (xUn (fldG K "many") (xV 0)))))
def m_Template_parameters (K : PySem.W.Frag) (cs : Cs) : MF := mk false 1 (b_Template_parameters K cs)
theorem ok_Template_parameters (A : All P K mg cs) : FnOk P w K mg base (L2.CX P w) 1 A.a_Template_parameters A.d_Template_parameters p_Template_parameters (spM false 1 (m_Template_parameters K cs)) := by
  refine fnM A.F_Template_parameters sc_Template_parameters (by decide) fun cdv A' outer s H E hr => ?_
  have hu := hu_of hr
  have hu0 := hr.units0
  have hu64 := hr.units
  have hu65 := hr.u65
  exact (pxb_one (pxs_ret (po_U (px_F (po_1 (g_fld K "many") (fun h => kFld K h rfl) (px_var (pv 0)))))))
end
end Q
namespace Q
open PySem L2 PySem.Spec PyProof.Rows NdefX LamX
section
variable {P : Program} {w : World} {K : PySem.W.Frag} {mg : Str → Option Value} {base : Heap} {cs : Cs}
/-! _law_pick -/
def b__law_pick (K : PySem.W.Frag) (cs : Cs) : Sx :=
    (sRet (xU (xF (xOp ixD (xV 1) (xF (xE true 2 (m__law_draw) (xCons (xV 0) (xCons (xF (xB lenG (xCons (xV 1) xNil))) xNil))))))))
def m__law_pick (K : PySem.W.Frag) (cs : Cs) : MF := mk true 2 (b__law_pick K cs)
theorem ok__law_pick (A : All P K mg cs) : FnOk P w K mg base (L2.CX P w) 2 A.a__law_pick A.d__law_pick p__law_pick (spM true 2 (m__law_pick K cs)) := by
  refine fnM A.F__law_pick sc__law_pick (by decide) fun cdv A' outer s H E hr => ?_
  have hu := hu_of hr
  have hu0 := hr.units0
  have hu64 := hr.units
  have hu65 := hr.u65
  exact (pxb_one (pxs_ret (po_U (px_F (po_2 (g_ix K) (fun h1 h2 => pe_ix (ixA K) h1 h2 (fun _ _ => rfl)) (px_var (pv 1)) (px_F (po_E (call_sp (ok__law_draw A) (hr.mono (by decide)) rfl A.D__law_draw.m A.D__law_draw.k A.D__law_draw.b) (pxa_cons (px_var (pv 0)) (pxa_cons (px_F (po_b (g_len K) (fun h => pe_callB (cLen K) (by rfl) A.b_len (by decide +kernel) h) (pxa_cons (px_var (pv 1)) pxa_nil))) pxa_nil)))))))))
/-! _law_qint -/
def b__law_qint (K : PySem.W.Frag) (cs : Cs) : Sx :=
    (sRet (xU (xAnd (xF (xB (isiG K) (xCons (xV 0) (xCons (xC (.ty "int")) xNil)))) (xAnd (xNot (xF (xB (isiG K) (xCons (xV 0) (xCons (xC (.ty "bool")) xNil))))) (xF (xCh leG leG (xV 1) (xV 0) (xV 2)))))))
def m__law_qint (K : PySem.W.Frag) (cs : Cs) : MF := mk false 3 (b__law_qint K cs)
theorem ok__law_qint (A : All P K mg cs) : FnOk P w K mg base (L2.CX P w) 1 A.a__law_qint A.d__law_qint p__law_qint (spM false 3 (m__law_qint K cs)) := by
  refine fnM A.F__law_qint sc__law_qint (by decide) fun cdv A' outer s H E hr => ?_
  have hu := hu_of hr
  have hu0 := hr.units0
  have hu64 := hr.units
  have hu65 := hr.u65
  exact (pxb_one (pxs_ret (po_U (px_and (px_F (po_b (g_isi K) (fun h => pe_callB (cIsi K) (by rfl) A.b_isinstance (by decide +kernel) h) (pxa_cons (px_var (pv 0)) (pxa_cons (px_C (pe_bltn (v := .ty "int") (by rfl) A.b_int (by decide +kernel) rfl) fun _ _ _ => .ty _) pxa_nil)))) (px_and (px_not (px_F (po_b (g_isi K) (fun h => pe_callB (cIsi K) (by rfl) A.b_isinstance (by decide +kernel) h) (pxa_cons (px_var (pv 0)) (pxa_cons (px_C (pe_bltn (v := .ty "bool") (by rfl) A.b_bool (by decide +kernel) rfl) fun _ _ _ => .ty _) pxa_nil))))) (px_one (px_F (po_ch g_le g_le (fun h1 h2 h3 => pe_chain op_le op_le h1 h2 h3) (px_var (pv 1)) (px_var (pv 0)) (px_var (pv 2))))))))))
/-! _law_qodd -/
def b__law_qodd (K : PySem.W.Frag) (cs : Cs) : Sx :=
    (sSeq (sSet 1 (xLst (xCons (xC .non) (xCons (xC (.bl true)) (xCons (xC (.bl false)) (xCons (xC (.int (-1))) (xCons (xC (.int 99)) (xCons (xF (xOp powG (xC (.int 10)) (xC (.int 59)))) (xCons (xC (.str "")) (xCons (xC (.str "kept")) (xCons (xF (xTup xNil)) (xCons (xF (xLst xNil)) (xCons (xF xNewK) (xCons (xF (xTup (xCons (xC (.str "kept")) xNil))) (xCons (xF (xLst (xCons (xC (.int 0)) xNil))) (xCons (xF (xTup (xCons (xC (.int 0)) xNil))) (xCons (xF (xDi false (xC (.str "look")) (xC (.int 0)))) (xCons (xF (xTup (xCons (xC (.str "look")) xNil))) xNil))))))))))))))))))
    (sRet (xU (xF (xE true 2 (m__law_pick K cs) (xCons (xV 0) (xCons (xF (xOp addG (xV 1) (xF (xLst (xCons (xF (xTup (xCons (xC (.str "look")) (xCons (xC (.int 0)) (xCons (xF (xTup xNil)) xNil))))) (xCons (xF (xTup (xCons (xC (.str "answers")) (xCons (xF (xTup xNil)) xNil)))) (xCons (xF (xTup (xCons (xC (.str "apart")) (xCons (xF (xTup xNil)) (xCons (xF (xTup xNil)) xNil))))) (xCons (xC (.str "look")) xNil)))))))) xNil)))))))
def m__law_qodd (K : PySem.W.Frag) (cs : Cs) : MF := mk true 2 (b__law_qodd K cs)
theorem ok__law_qodd (A : All P K mg cs) : FnOk P w K mg base (L2.CX P w) 3 A.a__law_qodd A.d__law_qodd p__law_qodd (spM true 1 (m__law_qodd K cs)) := by
  refine fnM A.F__law_qodd sc__law_qodd (by decide) fun cdv A' outer s H E hr => ?_
  have hu := hu_of hr
  have hu0 := hr.units0
  have hu64 := hr.units
  have hu65 := hr.u65
  exact (pxb_cons (pxs_set (fun h => ps_set (i := 1) sc__law_qodd.nd rfl (Or.inl rfl) h) (po_lst (pxa_cons px_non (pxa_cons px_bl (pxa_cons px_bl (pxa_cons (px_C (pe_neg) fun _ _ _ => .int _) (pxa_cons px_int (pxa_cons (px_F (po_2 g_pow (fun h1 h2 => pe_op op_pow h1 h2) px_int px_int)) (pxa_cons px_str (pxa_cons px_str (pxa_cons (px_F (po_tup pxa_nil)) (pxa_cons (px_F (po_lst pxa_nil)) (pxa_cons (px_F po_newK) (pxa_cons (px_F (po_tup (pxa_cons px_str pxa_nil))) (pxa_cons (px_F (po_lst (pxa_cons px_int pxa_nil))) (pxa_cons (px_F (po_tup (pxa_cons px_int pxa_nil))) (pxa_cons (px_F (po_di (t := false) hu0 px_str px_int)) (pxa_cons (px_F (po_tup (pxa_cons px_str pxa_nil))) pxa_nil))))))))))))))))))
      (pxb_one (pxs_ret (po_U (px_F (po_E (call_sp (ok__law_pick A) (hr.mono (by decide)) rfl A.D__law_pick.m A.D__law_pick.k A.D__law_pick.b) (pxa_cons (px_var (pv 0)) (pxa_cons (px_F (po_2 (g_add K) (fun h1 h2 => pe_op (op_addA K) h1 h2) (px_var (pv 1)) (px_F (po_lst (pxa_cons (px_F (po_tup (pxa_cons px_str (pxa_cons px_int (pxa_cons (px_F (po_tup pxa_nil)) pxa_nil))))) (pxa_cons (px_F (po_tup (pxa_cons px_str (pxa_cons (px_F (po_tup pxa_nil)) pxa_nil)))) (pxa_cons (px_F (po_tup (pxa_cons px_str (pxa_cons (px_F (po_tup pxa_nil)) (pxa_cons (px_F (po_tup pxa_nil)) pxa_nil))))) (pxa_cons px_str pxa_nil)))))))) pxa_nil))))))))
/-! _law_vused -/
def b__law_vused (K : PySem.W.Frag) (cs : Cs) : Sx :=
    (sSeq (sSetO 1 (xLst xNil))
    (sSeq (sFor (iA (xV 0)) (gT 2 (gsC (gN 2) (gsC (gN 3) gsN))) (sExt 1 (xF (xLc (iA (xV 3)) (gN 4) (xT (xF (xB (isiG K) (xCons (xV 4) (xCons (xC (.ty "int")) xNil))))) (xV 4) [4]))))
    (sRet (xU (xF (xSortSet (xV 1)))))))
def m__law_vused (K : PySem.W.Frag) (cs : Cs) : MF := mk false 5 (b__law_vused K cs)
theorem ok__law_vused (A : All P K mg cs) : FnOk P w K mg base (L2.CX P w) 1 A.a__law_vused A.d__law_vused p__law_vused (spM false 1 (m__law_vused K cs)) := by
  refine fnM A.F__law_vused sc__law_vused (by decide) fun cdv A' outer s H E hr => ?_
  have hu := hu_of hr
  have hu0 := hr.units0
  have hu64 := hr.units
  have hu65 := hr.u65
  exact (pxb_cons (pxs_setO (fun h => ps_set (i := 1) sc__law_vused.nd rfl (Or.inl rfl) h) (po_lst pxa_nil))
      (pxb_cons (pxs_for (fun h1 h2 h3 => ps_for (passes_of rfl) rfl h1 h2 h3) (pxi_any (px_var (pv 0))) (pxg_tup rfl (pxgs_cons (pxg_name (pg_name (i := 2) sc__law_vused.nd rfl (Or.inl rfl))) (pxgs_cons (pxg_name (pg_name (i := 3) sc__law_vused.nd rfl (Or.inl rfl))) pxgs_nil))) (pxb_one (pxs_ext (fun h => ps_expr (pe_bm PySem.F.plainAttrs_list PySem.F.slot_list_extend PySem.F.type_list_extend mt_extend (pv 1) h)) (pxa_cons (px_F (po_lc (own := [("_law_cell", 4)]) (is := [4]) rfl sc__law_vused.nd (pxi_any (px_var (pv 3))) (blkOk_by (own := [("_law_cell", 4)]) (N := N__law_vused) (sc := defScope s__law_vused) (by decide +kernel)) (by decide) (fun _ _ _ _ _ => (pxg_name (pg_name (i := 4) sc__law_vused.nd rfl (Or.inl rfl)))) (fun _ _ _ _ _ => (pxts_one (pxt_val (px_F (po_b (g_isi K) (fun h => pe_callB (cIsi K) (by rfl) A.b_isinstance (by decide +kernel) h) (pxa_cons (px_var (pv 4)) (pxa_cons (px_C (pe_bltn (v := .ty "int") (by rfl) A.b_int (by decide +kernel) rfl) fun _ _ _ => .ty _) pxa_nil))))))) (fun _ _ _ _ _ => (px_var (pv 4))))) pxa_nil))))
      (pxb_one (pxs_ret (po_U (px_F (po_sortSet (fun h => pe_sortSet rfl (by rfl) A.b_sorted (by rfl) A.b_set h) (px_var (pv 1)))))))))
/-! _law_is_word_here -/
def b__law_is_word_here (K : PySem.W.Frag) (cs : Cs) : Sx :=
    (sSeq (sIf (xOrT (xNotT (xT (xF (xB (isiG K) (xCons (xV 0) (xCons (xC (.ty "str")) xNil)))))) (xNotT (xTO (xCh leG leG (xC (.int 1)) (xF (xB lenG (xCons (xV 0) xNil))) (xC (.int 8)))))) (sRet (xU (xC (.bl false)))) sNx)
    (sRet (xU (xF (xOp eqNil (xF (xLc (iA (xV 0)) (gN 1) (xTO (xOp (inG true) (xV 1) (xC (.str "abcdefghijklmnopqrstuvwxyz")))) (xV 1) [1])) (xF (xLst xNil)))))))
def m__law_is_word_here (K : PySem.W.Frag) (cs : Cs) : MF := mk false 2 (b__law_is_word_here K cs)
theorem ok__law_is_word_here (A : All P K mg cs) : FnOk P w K mg base (L2.CX P w) 1 A.a__law_is_word_here A.d__law_is_word_here p__law_is_word_here (spM false 1 (m__law_is_word_here K cs)) := by
  refine fnM A.F__law_is_word_here sc__law_is_word_here (by decide) fun cdv A' outer s H E hr => ?_
  have hu := hu_of hr
  have hu0 := hr.units0
  have hu64 := hr.units
  have hu65 := hr.u65
  exact (pxb_cons (pxs_if (pxw_t (pxw_or (pxt_not (pxt_val (px_F (po_b (g_isi K) (fun h => pe_callB (cIsi K) (by rfl) A.b_isinstance (by decide +kernel) h) (pxa_cons (px_var (pv 0)) (pxa_cons (px_C (pe_bltn (v := .ty "str") (by rfl) A.b_str (by decide +kernel) rfl) fun _ _ _ => .ty _) pxa_nil)))))) (pxw_or1 (pxt_not (pxt_ch g_le g_le (fun h1 h2 h3 => pt_chain op_le op_le h1 h2 h3) px_int (px_F (po_b (g_len K) (fun h => pe_callB (cLen K) (by rfl) A.b_len (by decide +kernel) h) (pxa_cons (px_var (pv 0)) pxa_nil))) px_int))))) (pxb_one (pxs_ret (po_U px_bl))) pxb_nil)
      (pxb_one (pxs_ret (po_U (px_F (po_2 g_eqNil (fun h1 h2 => pe_cmpR (op_eqNil hu0) h1 h2 (nomark _)) (px_F (po_lc (own := [("_law_letter", 1)]) (is := [1]) rfl sc__law_is_word_here.nd (pxi_any (px_var (pv 0))) (blkOk_by (own := [("_law_letter", 1)]) (N := N__law_is_word_here) (sc := defScope s__law_is_word_here) (by decide +kernel)) (by decide) (fun _ _ _ _ _ => (pxg_name (pg_name (i := 1) sc__law_is_word_here.nd rfl (Or.inl rfl)))) (fun _ _ _ _ _ => (pxts_one (pxt_2 (g_notInG K) (fun h1 h2 => pt_cmpR (op_notInX K hu65) h1 h2 rfl) (px_var (pv 1)) px_str))) (fun _ _ _ _ _ => (px_var (pv 1))))) (px_F (po_lst pxa_nil))))))))
/-! _law_is_entry -/
def b__law_is_entry (K : PySem.W.Frag) (cs : Cs) : Sx :=
    (sSeq (sIf (xOrT (xNotT (xT (xF (xB (isiG K) (xCons (xV 0) (xCons (xC (.ty "tuple")) xNil)))))) (xOrT (xTO (xOp neG (xF (xB lenG (xCons (xV 0) xNil))) (xC (.int 2)))) (xNotT (xT (xF (xP 1 (m__law_is_word_here K cs) (xCons (xF (xOp ixD (xV 0) (xC (.int 0)))) xNil))))))) (sRet (xU (xC (.bl false)))) sNx)
    (sSeq (sIf (xOrT (xNotT (xT (xF (xB (isiG K) (xCons (xF (xOp ixD (xV 0) (xC (.int 1)))) (xCons (xC (.ty "tuple")) xNil)))))) (xNotT (xTO (xCh leG leG (xC (.int 1)) (xF (xB lenG (xCons (xF (xOp ixD (xV 0) (xC (.int 1)))) xNil))) (xC (.int 3)))))) (sRet (xU (xC (.bl false)))) sNx)
    (sRet (xU (xF (xOp eqNil (xF (xLc (iA (xF (xOp ixD (xV 0) (xC (.int 1))))) (gN 1) (xAndT (xNotT (xT (xF (xP 3 (m__law_qint K cs) (xCons (xV 1) (xCons (xC (.int 0)) (xCons (xC (.int 3)) xNil))))))) (xNotT (xT (xF (xP 1 (m__law_is_word_here K cs) (xCons (xV 1) xNil)))))) (xV 1) [1])) (xF (xLst xNil))))))))
def m__law_is_entry (K : PySem.W.Frag) (cs : Cs) : MF := mk false 2 (b__law_is_entry K cs)
theorem ok__law_is_entry (A : All P K mg cs) : FnOk P w K mg base (L2.CX P w) 2 A.a__law_is_entry A.d__law_is_entry p__law_is_entry (spM false 1 (m__law_is_entry K cs)) := by
  refine fnM A.F__law_is_entry sc__law_is_entry (by decide) fun cdv A' outer s H E hr => ?_
  have hu := hu_of hr
  have hu0 := hr.units0
  have hu64 := hr.units
  have hu65 := hr.u65
  exact (pxb_cons (pxs_if (pxw_t (pxw_or (pxt_not (pxt_val (px_F (po_b (g_isi K) (fun h => pe_callB (cIsi K) (by rfl) A.b_isinstance (by decide +kernel) h) (pxa_cons (px_var (pv 0)) (pxa_cons (px_C (pe_bltn (v := .ty "tuple") (by rfl) A.b_tuple (by decide +kernel) rfl) fun _ _ _ => .ty _) pxa_nil)))))) (pxw_or (pxt_2 (g_ne K) (fun h1 h2 => pt_cmpR (kNeD K hu64) h1 h2 (nomark _)) (px_F (po_b (g_len K) (fun h => pe_callB (cLen K) (by rfl) A.b_len (by decide +kernel) h) (pxa_cons (px_var (pv 0)) pxa_nil))) px_int) (pxw_or1 (pxt_not (pxt_val (px_F (po_P (call_sp (ok__law_is_word_here A) (hr.mono (by decide)) rfl A.D__law_is_word_here.m A.D__law_is_word_here.k A.D__law_is_word_here.b) (pxa_cons (px_F (po_2 (g_ix K) (fun h1 h2 => pe_ix (ixA K) h1 h2 (fun _ _ => rfl)) (px_var (pv 0)) px_int)) pxa_nil))))))))) (pxb_one (pxs_ret (po_U px_bl))) pxb_nil)
      (pxb_cons (pxs_if (pxw_t (pxw_or (pxt_not (pxt_val (px_F (po_b (g_isi K) (fun h => pe_callB (cIsi K) (by rfl) A.b_isinstance (by decide +kernel) h) (pxa_cons (px_F (po_2 (g_ix K) (fun h1 h2 => pe_ix (ixA K) h1 h2 (fun _ _ => rfl)) (px_var (pv 0)) px_int)) (pxa_cons (px_C (pe_bltn (v := .ty "tuple") (by rfl) A.b_tuple (by decide +kernel) rfl) fun _ _ _ => .ty _) pxa_nil)))))) (pxw_or1 (pxt_not (pxt_ch g_le g_le (fun h1 h2 h3 => pt_chain op_le op_le h1 h2 h3) px_int (px_F (po_b (g_len K) (fun h => pe_callB (cLen K) (by rfl) A.b_len (by decide +kernel) h) (pxa_cons (px_F (po_2 (g_ix K) (fun h1 h2 => pe_ix (ixA K) h1 h2 (fun _ _ => rfl)) (px_var (pv 0)) px_int)) pxa_nil))) px_int))))) (pxb_one (pxs_ret (po_U px_bl))) pxb_nil)
      (pxb_one (pxs_ret (po_U (px_F (po_2 g_eqNil (fun h1 h2 => pe_cmpR (op_eqNil hu0) h1 h2 (nomark _)) (px_F (po_lc (own := [("_law_cell", 1)]) (is := [1]) rfl sc__law_is_entry.nd (pxi_any (px_F (po_2 (g_ix K) (fun h1 h2 => pe_ix (ixA K) h1 h2 (fun _ _ => rfl)) (px_var (pv 0)) px_int))) (blkOk_by (own := [("_law_cell", 1)]) (N := N__law_is_entry) (sc := defScope s__law_is_entry) (by decide +kernel)) (by decide) (fun _ _ _ _ _ => (pxg_name (pg_name (i := 1) sc__law_is_entry.nd rfl (Or.inl rfl)))) (fun _ _ _ _ _ => (pxts_one (pxw_t (pxw_and (pxt_not (pxt_val (px_F (po_P (call_sp (ok__law_qint A) (hr.mono (by decide)) rfl A.D__law_qint.m A.D__law_qint.k A.D__law_qint.b) (pxa_cons (px_var (pv 1)) (pxa_cons px_int (pxa_cons px_int pxa_nil))))))) (pxw_and1 (pxt_not (pxt_val (px_F (po_P (call_sp (ok__law_is_word_here A) (hr.mono (by decide)) rfl A.D__law_is_word_here.m A.D__law_is_word_here.k A.D__law_is_word_here.b) (pxa_cons (px_var (pv 1)) pxa_nil)))))))))) (fun _ _ _ _ _ => (px_var (pv 1))))) (px_F (po_lst pxa_nil)))))))))
/-! _law_due -/
def b__law_due (K : PySem.W.Frag) (cs : Cs) : Sx :=
    (sSeq (sIf (xOrT (xNotT (xT (xF (xB (isiG K) (xCons (xV 0) (xCons (xF (xTup (xCons (xC (.ty "list")) (xCons (xC (.ty "tuple")) xNil)))) xNil)))))) (xNotT (xT (xF (xB (isiG K) (xCons (xV 1) (xCons (xF (xTup (xCons (xC (.ty "list")) (xCons (xC (.ty "tuple")) xNil)))) xNil))))))) (sRet (xU (xC .non))) sNx)
    (sSeq (sSet 2 (xOp addG (xF (xB listG (xCons (xV 0) xNil))) (xF (xB listG (xCons (xV 1) xNil)))))
    (sSeq (sSet 3 (xLc (iR1 (xCons (xF (xB lenG (xCons (xV 2) xNil))) xNil)) (gN 5) (xNotT (xT (xF (xP 1 (m__law_is_entry K cs) (xCons (xF (xOp ixD (xV 2) (xV 5))) xNil))))) (xV 5) [5]))
    (sSeq (sIf (xTO (xOp neG (xV 3) (xF (xLst xNil)))) (sRet (xU (xF (xOp ixD (xV 3) (xC (.int 0)))))) sNx)
    (sSeq (sSet 4 (xP 1 (m__law_vused K cs) (xCons (xV 2) xNil)))
    (sRet (xU (xIf (xTO (xOp eqG (xV 4) (xF (xLstRg (xF (xB lenG (xCons (xV 4) xNil))))))) (xC (.str "right")) (xC .non)))))))))
def m__law_due (K : PySem.W.Frag) (cs : Cs) : MF := mk false 6 (b__law_due K cs)
theorem ok__law_due (A : All P K mg cs) : FnOk P w K mg base (L2.CX P w) 3 A.a__law_due A.d__law_due p__law_due (spM false 2 (m__law_due K cs)) := by
  refine fnM A.F__law_due sc__law_due (by decide) fun cdv A' outer s H E hr => ?_
  have hu := hu_of hr
  have hu0 := hr.units0
  have hu64 := hr.units
  have hu65 := hr.u65
  exact (pxb_cons (pxs_if (pxw_t (pxw_or (pxt_not (pxt_val (px_F (po_b (g_isi K) (fun h => pe_callB (cIsi K) (by rfl) A.b_isinstance (by decide +kernel) h) (pxa_cons (px_var (pv 0)) (pxa_cons (px_F (po_tup (pxa_cons (px_C (pe_bltn (v := .ty "list") (by rfl) A.b_list (by decide +kernel) rfl) fun _ _ _ => .ty _) (pxa_cons (px_C (pe_bltn (v := .ty "tuple") (by rfl) A.b_tuple (by decide +kernel) rfl) fun _ _ _ => .ty _) pxa_nil)))) pxa_nil)))))) (pxw_or1 (pxt_not (pxt_val (px_F (po_b (g_isi K) (fun h => pe_callB (cIsi K) (by rfl) A.b_isinstance (by decide +kernel) h) (pxa_cons (px_var (pv 1)) (pxa_cons (px_F (po_tup (pxa_cons (px_C (pe_bltn (v := .ty "list") (by rfl) A.b_list (by decide +kernel) rfl) fun _ _ _ => .ty _) (pxa_cons (px_C (pe_bltn (v := .ty "tuple") (by rfl) A.b_tuple (by decide +kernel) rfl) fun _ _ _ => .ty _) pxa_nil)))) pxa_nil))))))))) (pxb_one (pxs_ret (po_U px_non))) pxb_nil)
      (pxb_cons (pxs_set (fun h => ps_set (i := 2) sc__law_due.nd rfl (Or.inr rfl) h) (po_2 (g_add K) (fun h1 h2 => pe_op (op_addA K) h1 h2) (px_F (po_b (g_list K) (fun h => pe_callTy (kList K) (by rfl) A.b_list (by decide +kernel) h) (pxa_cons (px_var (pv 0)) pxa_nil))) (px_F (po_b (g_list K) (fun h => pe_callTy (kList K) (by rfl) A.b_list (by decide +kernel) h) (pxa_cons (px_var (pv 1)) pxa_nil)))))
      (pxb_cons (pxs_setLc (elt := .Name "" ⟨0, 0, 0, 0⟩) (ifs := []) (is := [5]) (by decide) (pxi_r1 (fun h => pi_range1 (by rfl) A.b_range h) (pxa_cons (px_F (po_b (g_len K) (fun h => pe_callB (cLen K) (by rfl) A.b_len (by decide +kernel) h) (pxa_cons (px_var (pv 2)) pxa_nil))) pxa_nil)) (fun c h => ps_setLc (own := [("_law_k", 5)]) rfl sc__law_due.nd rfl rfl (sw_true rfl rfl rfl (by decide +kernel)) h (blkOk_by (own := [("_law_k", 5)]) (N := N__law_due) (sc := defScope s__law_due) (by decide +kernel)) (fun _ _ _ _ _ => pg_any c (pxg_name (pg_name (i := 5) sc__law_due.nd rfl (Or.inl rfl)))) (fun _ _ _ _ _ => pts_any c (pxts_one (pxt_not (pxt_val (px_F (po_P (call_sp (ok__law_is_entry A) (hr.mono (by decide)) rfl A.D__law_is_entry.m A.D__law_is_entry.k A.D__law_is_entry.b) (pxa_cons (px_F (po_2 (g_ix K) (fun h1 h2 => pe_ix (ixA K) h1 h2 (fun _ _ => rfl)) (px_var (pv 2)) (px_var (pv 5)))) pxa_nil))))))) (fun _ _ _ _ _ => pe_any c (px_var (pv 5)))))
      (pxb_cons (pxs_if (pxt_2 (g_ne K) (fun h1 h2 => pt_cmpR (kNeD K hu64) h1 h2 (nomark _)) (px_var (pv 3)) (px_F (po_lst pxa_nil))) (pxb_one (pxs_ret (po_U (px_F (po_2 (g_ix K) (fun h1 h2 => pe_ix (ixA K) h1 h2 (fun _ _ => rfl)) (px_var (pv 3)) px_int))))) pxb_nil)
      (pxb_cons (pxs_set (fun h => ps_set (i := 4) sc__law_due.nd rfl (Or.inl rfl) h) (po_P (call_sp (ok__law_vused A) (hr.mono (by decide)) rfl A.D__law_vused.m A.D__law_vused.k A.D__law_vused.b) (pxa_cons (px_var (pv 2)) pxa_nil)))
      (pxb_one (pxs_ret (po_U (px_if (pxt_2 (g_eq K) (fun h1 h2 => pt_cmpR (kEqD K hu64) h1 h2 (nomark _)) (px_var (pv 4)) (px_F (po_lstRg (fun h => pe_listRg rfl (by rfl) A.b_list (prg_1 (by rfl) A.b_range h)) (px_F (po_b (g_len K) (fun h => pe_callB (cLen K) (by rfl) A.b_len (by decide +kernel) h) (pxa_cons (px_var (pv 4)) pxa_nil)))))) px_str px_non)))))))))
/-! _law_told -/
def b__law_told (K : PySem.W.Frag) (cs : Cs) : Sx :=
    (sSeq (sTry K (.ref cs.InvalidTemplate) 2 (sSet 3 (xMk cs.Template false 2 (i_Template___init__ K cs) (xCons (xV 0) (xCons (xV 1) xNil)))) (fun a od cls => (sRet (xU (xIf (xT (xF (xB (isiX K cs.InvalidTemplate a od cls) (xCons (xV 2) (xCons (xC (.ty "ValueError")) xNil))))) (xXf 2 a od cls cs.InvalidTemplate "index") (xC (.str "odd")))))))
    (sSeq (sIf (xOrT (xTO (xOp neG (xF (xPr cs.Template (false, 1, m_Template_put_rows K cs) "put_rows" (xV 3))) (xF (xB tupG (xCons (xV 0) xNil))))) (xTO (xOp neG (xF (xPr cs.Template (false, 1, m_Template_taken_rows K cs) "taken_rows" (xV 3))) (xF (xB tupG (xCons (xV 1) xNil)))))) (sRet (xU (xC (.str "odd")))) sNx)
    (sRet (xU (xC (.str "right"))))))
def m__law_told (K : PySem.W.Frag) (cs : Cs) : MF := mk false 4 (b__law_told K cs)
theorem ok__law_told (A : All P K mg cs) : FnOk P w K mg base (L2.CX P w) 7 A.a__law_told A.d__law_told p__law_told (spM false 2 (m__law_told K cs)) := by
  refine fnM0 A.F__law_told sc__law_told (by decide) fun cdv A' outer s H E hr => ?_
  have hu := hu_of hr
  have hu0 := hr.units0
  have hu64 := hr.units
  have hu65 := hr.u65
  exact (pxb0_cons (pxs0_try (cv := .ref cs.InvalidTemplate) rfl rfl sc__law_told.nd rfl rfl ⟨rfl, by decide, Or.inl A.g_InvalidTemplate⟩ (fun pn xe => (pxb_one (pxs_set (fun h => ps_set (i := 3) sc__law_told.nd rfl (Or.inl rfl) h) (po_Mk (make_sp A.mk_Template (fnS_of (ok_Template___init__ A) A.B_Template___init__) (hr.mono (by decide)) rfl A.g_Template) (pxa_cons (px_var (pv 0)) (pxa_cons (px_var (pv 1)) pxa_nil)))))) (fun a oe cls od pn hz hf => (pxb_one (pxs_ret (po_U (px_if (pxt_val (px_F (po_b (g_isX K) (fun h => pe_callB (call_isD A.ca_InvalidTemplate.xc hz hf) (by rfl) A.b_isinstance (by decide +kernel) h) (pxa_cons (px_var (pv 2)) (pxa_cons (px_C (pe_bltn (v := .ty "ValueError") (by rfl) A.b_ValueError (by decide +kernel) rfl) fun _ _ _ => .ty _) pxa_nil))))) (px_Xf A.ca_InvalidTemplate.xf (A.ca_InvalidTemplate.no _ (by decide)) hz hf (pv 2)) px_str))))))
      (pxb0_cons (pxs0_of (pxs_if (pxw_t (pxw_or (pxt_2 (g_ne K) (fun h1 h2 => pt_cmpR (kNeD K hu64) h1 h2 (nomark _)) (px_F (po_pr (fun h => pe_prop h A.cl_Template A.P_Template_put_rows (ok_Template_put_rows A) (hr.mono (by decide)) A.B_Template_put_rows .nil passL rfl) (px_var (pv 3)))) (px_F (po_b (g_tup K) (fun h => pe_callTy (cTuple K rfl) (by rfl) A.b_tuple (by decide +kernel) h) (pxa_cons (px_var (pv 0)) pxa_nil)))) (pxw_or1 (pxt_2 (g_ne K) (fun h1 h2 => pt_cmpR (kNeD K hu64) h1 h2 (nomark _)) (px_F (po_pr (fun h => pe_prop h A.cl_Template A.P_Template_taken_rows (ok_Template_taken_rows A) (hr.mono (by decide)) A.B_Template_taken_rows .nil passL rfl) (px_var (pv 3)))) (px_F (po_b (g_tup K) (fun h => pe_callTy (cTuple K rfl) (by rfl) A.b_tuple (by decide +kernel) h) (pxa_cons (px_var (pv 1)) pxa_nil))))))) (pxb_one (pxs_ret (po_U px_str))) pxb_nil))
      (pxb0_one (pxs0_of (pxs_ret (po_U px_str))))))
/-! _law_entry -/
def b__law_entry (K : PySem.W.Frag) (cs : Cs) : Sx :=
    (sSeq (sSet 2 (xLc (iR1 (xCons (xF (xOp addG (xC (.int 1)) (xF (xE true 2 (m__law_draw) (xCons (xV 0) (xCons (xC (.int 3)) xNil)))))) xNil)) (gN 3) xYes (xF (xE true 2 (m__law_pick K cs) (xCons (xV 0) (xCons (xF (xLst (xCons (xF (xE true 2 (m__law_draw) (xCons (xV 0) (xCons (xV 1) xNil)))) (xCons (xF (xE true 2 (m__law_draw) (xCons (xV 0) (xCons (xV 1) xNil)))) (xCons (xC (.str "p")) xNil))))) xNil)))) [3]))
    (sRet (xU (xF (xTup (xCons (xF (xE true 2 (m__law_pick K cs) (xCons (xV 0) (xCons (xF (xLst (xCons (xC (.str "a")) (xCons (xC (.str "item")) (xCons (xC (.str "abcdefgh")) (xCons (xC (.str "p")) xNil)))))) xNil)))) (xCons (xF (xB tupG (xCons (xV 2) xNil))) xNil)))))))
def m__law_entry (K : PySem.W.Frag) (cs : Cs) : MF := mk true 4 (b__law_entry K cs)
theorem ok__law_entry (A : All P K mg cs) : FnOk P w K mg base (L2.CX P w) 3 A.a__law_entry A.d__law_entry p__law_entry (spM true 2 (m__law_entry K cs)) := by
  refine fnM A.F__law_entry sc__law_entry (by decide) fun cdv A' outer s H E hr => ?_
  have hu := hu_of hr
  have hu0 := hr.units0
  have hu64 := hr.units
  have hu65 := hr.u65
  exact (pxb_cons (pxs_setLc (elt := .Name "" ⟨0, 0, 0, 0⟩) (ifs := []) (is := [3]) (by decide) (by exact (pxi_r1 (fun h => pi_range1 (by rfl) A.b_range h) (pxa_cons (px_F (po_2 (g_add K) (fun h1 h2 => pe_op (op_addA K) h1 h2) px_int (px_F (po_E (call_sp (ok__law_draw A) (hr.mono (by decide)) rfl A.D__law_draw.m A.D__law_draw.k A.D__law_draw.b) (pxa_cons (px_var (pv 0)) (pxa_cons px_int pxa_nil)))))) pxa_nil))) (fun c h => ps_setLc (own := [("_law_k", 3)]) rfl sc__law_entry.nd rfl rfl (sw_true rfl rfl rfl (by decide +kernel)) h (blkOk_by (own := [("_law_k", 3)]) (N := N__law_entry) (sc := defScope s__law_entry) (by decide +kernel)) (fun _ _ _ _ _ => pg_any c (pxg_name (pg_name (i := 3) sc__law_entry.nd rfl (Or.inl rfl)))) (fun _ _ _ _ _ => pts_any c pxts_nil) (fun _ _ _ _ _ => pe_any c (px_F (po_E (call_sp (ok__law_pick A) (hr.mono (by decide)) rfl A.D__law_pick.m A.D__law_pick.k A.D__law_pick.b) (pxa_cons (px_var (pv 0)) (pxa_cons (px_F (po_lst (pxa_cons (px_F (po_E (call_sp (ok__law_draw A) (hr.mono (by decide)) rfl A.D__law_draw.m A.D__law_draw.k A.D__law_draw.b) (pxa_cons (px_var (pv 0)) (pxa_cons (px_var (pv 1)) pxa_nil)))) (pxa_cons (px_F (po_E (call_sp (ok__law_draw A) (hr.mono (by decide)) rfl A.D__law_draw.m A.D__law_draw.k A.D__law_draw.b) (pxa_cons (px_var (pv 0)) (pxa_cons (px_var (pv 1)) pxa_nil)))) (pxa_cons px_str pxa_nil))))) pxa_nil)))))))
      (pxb_one (pxs_ret (po_U (px_F (po_tup (pxa_cons (px_F (po_E (call_sp (ok__law_pick A) (hr.mono (by decide)) rfl A.D__law_pick.m A.D__law_pick.k A.D__law_pick.b) (pxa_cons (px_var (pv 0)) (pxa_cons (px_F (po_lst (pxa_cons px_str (pxa_cons px_str (pxa_cons px_str (pxa_cons px_str pxa_nil)))))) pxa_nil)))) (pxa_cons (px_F (po_b (g_tup K) (fun h => pe_callTy (cTuple K rfl) (by rfl) A.b_tuple (by decide +kernel) h) (pxa_cons (px_var (pv 2)) pxa_nil))) pxa_nil))))))))
/-! _law_bad -/
def b__law_bad (K : PySem.W.Frag) (cs : Cs) : Sx :=
    (sSeq (sAsg (xU (xV 1)) (gT 2 (gsC (gN 4) (gsC (gN 5) gsN))))
    (sSeq (sSet 2 (xE true 2 (m__law_pick K cs) (xCons (xV 0) (xCons (xF (xLst (xCons (xC (.bl true)) (xCons (xC (.bl false)) (xCons (xC (.int 4)) (xCons (xC (.int (-1))) (xCons (xC .non) (xCons (xC (.str "")) (xCons (xC (.str "A")) (xCons (xC (.str "a1")) (xCons (xC (.str "abcdefghi")) (xCons (xF (xTup (xCons (xC (.int 0)) xNil))) (xCons (xF (xLst (xCons (xC (.int 0)) xNil))) (xCons (xF xNewK) (xCons (xF (xOp powG (xC (.int 10)) (xC (.int 20)))) (xCons (xC (.str " ")) xNil)))))))))))))))) xNil))))
    (sSeq (sSet 3 (xLst (xCons (xF (xTup (xCons (xV 4) (xCons (xF (xOp addG (xF (xSl (xV 5) pNo (pSo (xC (.int 1))))) (xF (xTup (xCons (xV 2) xNil))))) xNil)))) (xCons (xF (xTup (xCons (xV 4) (xCons (xF (xTup (xCons (xV 2) xNil))) xNil)))) (xCons (xF (xTup (xCons (xV 2) (xCons (xV 5) xNil)))) (xCons (xF (xTup (xCons (xV 4) (xCons (xF (xB listG (xCons (xV 5) xNil))) xNil)))) (xCons (xF (xTup (xCons (xV 4) (xCons (xF (xTup xNil)) xNil)))) xNil)))))))
    (sSeq (sSet 3 (xOp addG (xV 3) (xF (xLst (xCons (xF (xLst (xCons (xV 4) (xCons (xV 5) xNil)))) (xCons (xF (xTup (xCons (xV 4) (xCons (xF (xOp addG (xF (xOp addG (xF (xOp addG (xV 5) (xV 5))) (xV 5))) (xF (xTup (xCons (xC (.int 0)) xNil))))) xNil)))) (xCons (xF (xTup (xCons (xV 4) xNil))) (xCons (xF (xTup (xCons (xV 4) (xCons (xV 5) (xCons (xV 5) xNil))))) xNil))))))))
    (sSeq (sSet 3 (xOp addG (xV 3) (xF (xLst (xCons (xF (xTup (xCons (xV 5) (xCons (xV 4) xNil)))) (xCons (xV 2) (xCons (xF (xTup (xCons (xV 4) (xCons (xC (.str "p")) xNil)))) xNil)))))))
    (sRet (xU (xF (xE true 2 (m__law_pick K cs) (xCons (xV 0) (xCons (xV 3) xNil)))))))))))
def m__law_bad (K : PySem.W.Frag) (cs : Cs) : MF := mk true 6 (b__law_bad K cs)
theorem ok__law_bad (A : All P K mg cs) : FnOk P w K mg base (L2.CX P w) 3 A.a__law_bad A.d__law_bad p__law_bad (spM true 2 (m__law_bad K cs)) := by
  refine fnM A.F__law_bad sc__law_bad (by decide) fun cdv A' outer s H E hr => ?_
  have hu := hu_of hr
  have hu0 := hr.units0
  have hu64 := hr.units
  have hu65 := hr.u65
  exact (pxb_cons (pxs_asg (fun h1 h2 => ps_asg h1 h2) (po_U (px_var (pv 1))) (pxg_tup rfl (pxgs_cons (pxg_name (pg_name (i := 4) sc__law_bad.nd rfl (Or.inl rfl))) (pxgs_cons (pxg_name (pg_name (i := 5) sc__law_bad.nd rfl (Or.inl rfl))) pxgs_nil))))
      (pxb_cons (pxs_set (fun h => ps_set (i := 2) sc__law_bad.nd rfl (Or.inl rfl) h) (po_E (call_sp (ok__law_pick A) (hr.mono (by decide)) rfl A.D__law_pick.m A.D__law_pick.k A.D__law_pick.b) (pxa_cons (px_var (pv 0)) (pxa_cons (px_F (po_lst (pxa_cons px_bl (pxa_cons px_bl (pxa_cons px_int (pxa_cons (px_C (pe_neg) fun _ _ _ => .int _) (pxa_cons px_non (pxa_cons px_str (pxa_cons px_str (pxa_cons px_str (pxa_cons px_str (pxa_cons (px_F (po_tup (pxa_cons px_int pxa_nil))) (pxa_cons (px_F (po_lst (pxa_cons px_int pxa_nil))) (pxa_cons (px_F po_newK) (pxa_cons (px_F (po_2 g_pow (fun h1 h2 => pe_op op_pow h1 h2) px_int px_int)) (pxa_cons px_str pxa_nil)))))))))))))))) pxa_nil))))
      (pxb_cons (pxs_set (fun h => ps_set (i := 3) sc__law_bad.nd rfl (Or.inl rfl) h) (po_lst (pxa_cons (px_F (po_tup (pxa_cons (px_var (pv 4)) (pxa_cons (px_F (po_2 (g_add K) (fun h1 h2 => pe_op (op_addA K) h1 h2) (px_F (po_sl K (fun h1 h2 h3 => pe_slice (slA K) h1 h2 h3) (px_var (pv 5)) pxp_no (pxp_so px_int))) (px_F (po_tup (pxa_cons (px_var (pv 2)) pxa_nil))))) pxa_nil)))) (pxa_cons (px_F (po_tup (pxa_cons (px_var (pv 4)) (pxa_cons (px_F (po_tup (pxa_cons (px_var (pv 2)) pxa_nil))) pxa_nil)))) (pxa_cons (px_F (po_tup (pxa_cons (px_var (pv 2)) (pxa_cons (px_var (pv 5)) pxa_nil)))) (pxa_cons (px_F (po_tup (pxa_cons (px_var (pv 4)) (pxa_cons (px_F (po_b (g_list K) (fun h => pe_callTy (kList K) (by rfl) A.b_list (by decide +kernel) h) (pxa_cons (px_var (pv 5)) pxa_nil))) pxa_nil)))) (pxa_cons (px_F (po_tup (pxa_cons (px_var (pv 4)) (pxa_cons (px_F (po_tup pxa_nil)) pxa_nil)))) pxa_nil)))))))
      (pxb_cons (pxs_set (fun h => ps_set (i := 3) sc__law_bad.nd rfl (Or.inl rfl) h) (po_2 (g_add K) (fun h1 h2 => pe_op (op_addA K) h1 h2) (px_var (pv 3)) (px_F (po_lst (pxa_cons (px_F (po_lst (pxa_cons (px_var (pv 4)) (pxa_cons (px_var (pv 5)) pxa_nil)))) (pxa_cons (px_F (po_tup (pxa_cons (px_var (pv 4)) (pxa_cons (px_F (po_2 (g_add K) (fun h1 h2 => pe_op (op_addA K) h1 h2) (px_F (po_2 (g_add K) (fun h1 h2 => pe_op (op_addA K) h1 h2) (px_F (po_2 (g_add K) (fun h1 h2 => pe_op (op_addA K) h1 h2) (px_var (pv 5)) (px_var (pv 5)))) (px_var (pv 5)))) (px_F (po_tup (pxa_cons px_int pxa_nil))))) pxa_nil)))) (pxa_cons (px_F (po_tup (pxa_cons (px_var (pv 4)) pxa_nil))) (pxa_cons (px_F (po_tup (pxa_cons (px_var (pv 4)) (pxa_cons (px_var (pv 5)) (pxa_cons (px_var (pv 5)) pxa_nil))))) pxa_nil))))))))
      (pxb_cons (pxs_set (fun h => ps_set (i := 3) sc__law_bad.nd rfl (Or.inl rfl) h) (po_2 (g_add K) (fun h1 h2 => pe_op (op_addA K) h1 h2) (px_var (pv 3)) (px_F (po_lst (pxa_cons (px_F (po_tup (pxa_cons (px_var (pv 5)) (pxa_cons (px_var (pv 4)) pxa_nil)))) (pxa_cons (px_var (pv 2)) (pxa_cons (px_F (po_tup (pxa_cons (px_var (pv 4)) (pxa_cons px_str pxa_nil)))) pxa_nil)))))))
      (pxb_one (pxs_ret (po_U (px_F (po_E (call_sp (ok__law_pick A) (hr.mono (by decide)) rfl A.D__law_pick.m A.D__law_pick.k A.D__law_pick.b) (pxa_cons (px_var (pv 0)) (pxa_cons (px_var (pv 3)) pxa_nil))))))))))))
/-! _law_same -/
def b__law_same (K : PySem.W.Frag) (cs : Cs) : Sx :=
    (sRet (xU (xAnd (xF (xEqS cs.Template (false, 2, m_Template___eq__ K cs) false (xV 0) (xV 1))) (xAnd (xF (xEqS cs.Template (false, 2, m_Template___eq__ K cs) false (xV 1) (xV 0))) (xNot (xF (xEqS cs.Template (false, 2, m_Template___eq__ K cs) true (xV 0) (xV 1))))))))
def m__law_same (K : PySem.W.Frag) (cs : Cs) : MF := mk false 2 (b__law_same K cs)
theorem ok__law_same (A : All P K mg cs) : FnOk P w K mg base (L2.CX P w) 3 A.a__law_same A.d__law_same p__law_same (spM false 2 (m__law_same K cs)) := by
  refine fnM A.F__law_same sc__law_same (by decide) fun cdv A' outer s H E hr => ?_
  have hu := hu_of hr
  have hu0 := hr.units0
  have hu64 := hr.units
  have hu65 := hr.u65
  exact (pxb_one (pxs_ret (po_U (px_and (px_F (po_eqS (n := false) (fun h1 h2 => pe_cmpR (op_eqOwn ⟨A.M_Template___eq__.at_, A.M_Template___eq__.fn⟩ (ok_Template___eq__ A) (hr.mono (by decide)) A.B_Template___eq__ passL) h1 h2 (nomark _)) (px_var (pv 0)) (px_var (pv 1)))) (px_and (px_F (po_eqS (n := false) (fun h1 h2 => pe_cmpR (op_eqOwn ⟨A.M_Template___eq__.at_, A.M_Template___eq__.fn⟩ (ok_Template___eq__ A) (hr.mono (by decide)) A.B_Template___eq__ passL) h1 h2 (nomark _)) (px_var (pv 1)) (px_var (pv 0)))) (px_one (px_not (px_F (po_eqS (n := true) (fun h1 h2 => pe_cmpR (op_neOwn ⟨A.M_Template___eq__.at_, A.M_Template___eq__.fn⟩ A.ne_Template A.ob_Template (ok_Template___eq__ A) (hr.mono (by decide)) A.B_Template___eq__ passL) h1 h2 (nomark _)) (px_var (pv 0)) (px_var (pv 1)))))))))))
/-! law -/
def b_law (K : PySem.W.Frag) (cs : Cs) : Sx :=
    (sSeq (sSet 1 (xE true 1 (m__law_pen K) (xCons (xV 0) xNil)))
    (sSeq (sFor (iR1 (xCons (xC (.int 24)) xNil)) (gN 2) (sSeq (sSetO 3 (xLc (iR1 (xCons (xF (xE true 2 (m__law_draw) (xCons (xV 1) (xCons (xC (.int 7)) xNil)))) xNil)) (gN 14) xYes (xF (xE true 2 (m__law_entry K cs) (xCons (xV 1) (xCons (xF (xOp addG (xC (.int 1)) (xF (xE true 2 (m__law_draw) (xCons (xV 1) (xCons (xC (.int 4)) xNil)))))) xNil)))) [14]))
    (sSeq (sSet 4 (xE true 2 (m__law_draw) (xCons (xV 1) (xCons (xF (xOp addG (xF (xB lenG (xCons (xV 3) xNil))) (xC (.int 1)))) xNil))))
    (sSeq (sPar2 6 7 (oCons (xSl (xV 3) pNo (pSo (xV 4))) (oCons (xSl (xV 3) (pSo (xV 4)) pNo) oNil)))
    (sSeq (sIf (xAndT (xTO (xOp eqG (xF (xE true 2 (m__law_draw) (xCons (xV 1) (xCons (xC (.int 3)) xNil)))) (xC (.int 0)))) (xTO (xOp neG (xV 3) (xF (xLst xNil))))) (sSeq (sSet 8 (xE true 2 (m__law_draw) (xCons (xV 1) (xCons (xF (xB lenG (xCons (xV 3) xNil))) xNil))))
    (sSeq (sLput 3 (xV 8) (xF (xE true 2 (m__law_bad K cs) (xCons (xV 1) (xCons (xF (xOp ixD (xV 3) (xV 8))) xNil)))))
    (sSeq (sPar2 6 7 (oCons (xSl (xV 3) pNo (pSo (xV 4))) (oCons (xSl (xV 3) (pSo (xV 4)) pNo) oNil)))
    (sIf (xTO (xOp eqG (xF (xE true 2 (m__law_draw) (xCons (xV 1) (xCons (xC (.int 3)) xNil)))) (xC (.int 0)))) (sSetO 6 (xOp addG (xV 6) (xF (xLst (xCons (xF (xE true 1 (m__law_qodd K cs) (xCons (xV 1) xNil))) xNil))))) sNx)))) sNx)
    (sSeq (sIf (xTO (xOp eqG (xF (xE true 2 (m__law_draw) (xCons (xV 1) (xCons (xC (.int 12)) xNil)))) (xC (.int 0)))) (sAsg (xE true 2 (m__law_pick K cs) (xCons (xV 1) (xCons (xF (xLst (xCons (xF (xTup (xCons (xC .non) (xCons (xV 7) xNil)))) (xCons (xF (xTup (xCons (xV 6) (xCons (xC (.str "a")) xNil)))) (xCons (xF (xTup (xCons (xF xNewK) (xCons (xV 7) xNil)))) (xCons (xF (xTup (xCons (xV 6) (xCons (xC (.int 7)) xNil)))) (xCons (xF (xTup (xCons (xC (.int 7)) (xCons (xF (xLst (xCons (xC .non) xNil))) xNil)))) xNil))))))) xNil))) (gT 2 (gsC (gN 6) (gsC (gN 7) gsN)))) sNx)
    (sSeq (sPar2 9 10 (oCons (xU (xF (xP 2 (m__law_due K cs) (xCons (xV 6) (xCons (xV 7) xNil))))) (oCons (xU (xF (xCalm (xB reprR (xCons (xF (xTup (xCons (xV 6) (xCons (xV 7) xNil)))) xNil))))) oNil)))
    (sSeq (sIf (xOrT (xTO (xOp neS (xF (xB reprA (xCons (xF (xP 2 (m__law_told K cs) (xCons (xV 6) (xCons (xV 7) xNil)))) xNil))) (xF (xB reprA (xCons (xV 9) xNil))))) (xTO (xOp neS (xF (xCalm (xB reprR (xCons (xF (xTup (xCons (xV 6) (xCons (xV 7) xNil)))) xNil)))) (xV 10)))) (sRet (xU (xC (.bl false)))) sNx)
    (sSeq (sIf (xTO (xOp neG (xV 9) (xC (.str "right")))) sCt sNx)
    (sSeq (sPar3 11 12 13 (oCons (xU (xF (xCalm (xMk cs.Template false 2 (i_Template___init__ K cs) (xCons (xV 6) (xCons (xV 7) xNil)))))) (oCons (xU (xF (xB tupG (xCons (xV 6) xNil)))) (oCons (xU (xF (xB tupG (xCons (xV 7) xNil)))) oNil))))
    (sSeq (sIf (xOrT (xTO (xOp neG (xF (xPr cs.Template (false, 1, m_Template_parameters K cs) "parameters" (xV 11))) (xF (xB lenG (xCons (xF (xP 1 (m__law_vused K cs) (xCons (xF (xOp addG (xV 6) (xV 7))) xNil))) xNil))))) (xNotT (xT (xF (xP 2 (m__law_same K cs) (xCons (xV 11) (xCons (xF (xMk cs.Template false 2 (i_Template___init__ K cs) (xCons (xF (xB tupG (xCons (xV 6) xNil))) (xCons (xF (xB tupG (xCons (xV 7) xNil))) xNil)))) xNil))))))) (sRet (xU (xC (.bl false)))) sNx)
    (sSeq (sIf (xOrT (xTO (xOp neG (xF (xP 2 (m__law_same K cs) (xCons (xV 11) (xCons (xF (xMk cs.Template false 2 (i_Template___init__ K cs) (xCons (xF (xOp addG (xV 6) (xV 7))) (xCons (xF (xLst xNil)) xNil)))) xNil)))) (xF (xOp eqG (xV 7) (xF (xLst xNil)))))) (xOrT (xCalmT (xTO (xEqT cs.Template (2, m_Template___eq__ K cs) (xV 11) (xF (xTup (xCons (xV 6) (xCons (xV 7) xNil))))))) (xNotT (xTO (xNeN cs.Template (2, m_Template___eq__ K cs) (xV 11) (xC .non)))))) (sRet (xU (xC (.bl false)))) sNx)
    (sSeq (sSet 5 (xBack (xV 6)))
    (sSeq (sIf (xTO (xOp neG (xF (xP 2 (m__law_same K cs) (xCons (xV 11) (xCons (xF (xCalm (xMk cs.Template false 2 (i_Template___init__ K cs) (xCons (xV 5) (xCons (xV 7) xNil))))) xNil)))) (xF (xOp eqG (xV 5) (xV 6))))) (sRet (xU (xC (.bl false)))) sNx)
    (sSeq (sLclr 6)
    (sSeq (sApp 7 (xC .non))
    (sIf (xTO (xOp neS (xF (xB reprR (xCons (xF (xTup (xCons (xF (xPr cs.Template (false, 1, m_Template_put_rows K cs) "put_rows" (xV 11))) (xCons (xF (xPr cs.Template (false, 1, m_Template_taken_rows K cs) "taken_rows" (xV 11))) xNil)))) xNil))) (xF (xB reprR (xCons (xF (xTup (xCons (xV 12) (xCons (xV 13) xNil)))) xNil))))) (sRet (xU (xC (.bl false)))) sNx)))))))))))))))))
    (sRet (xU (xC (.bl true))))))
def m_law (K : PySem.W.Frag) (cs : Cs) : MF := mk true 15 (b_law K cs)
theorem ok_law (A : All P K mg cs) (hsb : ∃ o, base.get? sysModules = some o) : FnOkG P w K mg base (L2.CX P w) 10 A.a_law A.d_law p_law (spM true 1 (m_law K cs)) := by
  refine fnMG A.F_law sc_law (by decide) fun cdv A' outer s H E hgd hr => ?_
  have hu := hu_of hr
  have hu0 := hr.units0
  have hu64 := hr.units
  have hu65 := hr.u65
  exact (pxb_cons (pxs_set (fun h => ps_set (i := 1) sc_law.nd rfl (Or.inr rfl) h) (po_E (call_sp (ok__law_pen A) (hr.mono (by decide)) rfl A.D__law_pen.m A.D__law_pen.k A.D__law_pen.b) (pxa_cons (px_var (pv 0)) pxa_nil)))
      (pxb_cons (pxs_for (fun h1 h2 h3 => ps_for (passes_of rfl) rfl h1 h2 h3) (pxi_r1 (fun h => pi_range1 (by rfl) A.b_range h) (pxa_cons px_int pxa_nil)) (pxg_name (pg_name (i := 2) sc_law.nd rfl (Or.inl rfl))) (pxb_cons (pxs_setLcO (elt := .Name "" ⟨0, 0, 0, 0⟩) (ifs := []) (is := [14]) (by decide) (by exact (pxi_r1 (fun h => pi_range1 (by rfl) A.b_range h) (pxa_cons (px_F (po_E (call_sp (ok__law_draw A) (hr.mono (by decide)) rfl A.D__law_draw.m A.D__law_draw.k A.D__law_draw.b) (pxa_cons (px_var (pv 1)) (pxa_cons px_int pxa_nil)))) pxa_nil))) (fun c h => ps_setLc (own := [("_law_k", 14)]) rfl sc_law.nd rfl rfl (sw_true rfl rfl rfl (by decide +kernel)) h (blkOk_by (own := [("_law_k", 14)]) (N := N_law) (sc := defScope s_law) (by decide +kernel)) (fun _ _ _ _ _ => pg_any c (pxg_name (pg_name (i := 14) sc_law.nd rfl (Or.inl rfl)))) (fun _ _ _ _ _ => pts_any c pxts_nil) (fun _ _ _ _ _ => pe_any c (px_F (po_E (call_sp (ok__law_entry A) (hr.mono (by decide)) rfl A.D__law_entry.m A.D__law_entry.k A.D__law_entry.b) (pxa_cons (px_var (pv 1)) (pxa_cons (px_F (po_2 (g_add K) (fun h1 h2 => pe_op (op_addA K) h1 h2) px_int (px_F (po_E (call_sp (ok__law_draw A) (hr.mono (by decide)) rfl A.D__law_draw.m A.D__law_draw.k A.D__law_draw.b) (pxa_cons (px_var (pv 1)) (pxa_cons px_int pxa_nil)))))) pxa_nil)))))))
      (pxb_cons (pxs_set (fun h => ps_set (i := 4) sc_law.nd rfl (Or.inl rfl) h) (po_E (call_sp (ok__law_draw A) (hr.mono (by decide)) rfl A.D__law_draw.m A.D__law_draw.k A.D__law_draw.b) (pxa_cons (px_var (pv 1)) (pxa_cons (px_F (po_2 (g_add K) (fun h1 h2 => pe_op (op_addA K) h1 h2) (px_F (po_b (g_len K) (fun h => pe_callB (cLen K) (by rfl) A.b_len (by decide +kernel) h) (pxa_cons (px_var (pv 3)) pxa_nil))) px_int)) pxa_nil))))
      (pxb_cons (pxs_par2 (fun h => ps_par (i := 6) (j := 7) (by rfl) sc_law.nd rfl rfl (by decide) rfl rfl h (by rfl)) (pao_cons (po_sl K (fun h1 h2 h3 => pe_slice (slA K) h1 h2 h3) (px_var (pv 3)) pxp_no (pxp_so (px_var (pv 4)))) (pao_cons (po_sl K (fun h1 h2 h3 => pe_slice (slA K) h1 h2 h3) (px_var (pv 3)) (pxp_so (px_var (pv 4))) pxp_no) pao_nil)))
      (pxb_cons (pxs_if (pxw_t (pxw_and (pxt_2 (g_eq K) (fun h1 h2 => pt_cmpR (kEqD K hu64) h1 h2 (nomark _)) (px_F (po_E (call_sp (ok__law_draw A) (hr.mono (by decide)) rfl A.D__law_draw.m A.D__law_draw.k A.D__law_draw.b) (pxa_cons (px_var (pv 1)) (pxa_cons px_int pxa_nil)))) px_int) (pxw_and1 (pxt_2 (g_ne K) (fun h1 h2 => pt_cmpR (kNeD K hu64) h1 h2 (nomark _)) (px_var (pv 3)) (px_F (po_lst pxa_nil)))))) (pxb_cons (pxs_set (fun h => ps_set (i := 8) sc_law.nd rfl (Or.inl rfl) h) (po_E (call_sp (ok__law_draw A) (hr.mono (by decide)) rfl A.D__law_draw.m A.D__law_draw.k A.D__law_draw.b) (pxa_cons (px_var (pv 1)) (pxa_cons (px_F (po_b (g_len K) (fun h => pe_callB (cLen K) (by rfl) A.b_len (by decide +kernel) h) (pxa_cons (px_var (pv 3)) pxa_nil))) pxa_nil))))
      (pxb_cons (pxs_lput (fun h1 h2 => ps_lput (pv 3) h1 h2 rfl) (px_var (pv 8)) (px_F (po_E (call_sp (ok__law_bad A) (hr.mono (by decide)) rfl A.D__law_bad.m A.D__law_bad.k A.D__law_bad.b) (pxa_cons (px_var (pv 1)) (pxa_cons (px_F (po_2 (g_ix K) (fun h1 h2 => pe_ix (ixA K) h1 h2 (fun _ _ => rfl)) (px_var (pv 3)) (px_var (pv 8)))) pxa_nil)))))
      (pxb_cons (pxs_par2 (fun h => ps_par (i := 6) (j := 7) (by rfl) sc_law.nd rfl rfl (by decide) rfl rfl h (by rfl)) (pao_cons (po_sl K (fun h1 h2 h3 => pe_slice (slA K) h1 h2 h3) (px_var (pv 3)) pxp_no (pxp_so (px_var (pv 4)))) (pao_cons (po_sl K (fun h1 h2 h3 => pe_slice (slA K) h1 h2 h3) (px_var (pv 3)) (pxp_so (px_var (pv 4))) pxp_no) pao_nil)))
      (pxb_one (pxs_if (pxt_2 (g_eq K) (fun h1 h2 => pt_cmpR (kEqD K hu64) h1 h2 (nomark _)) (px_F (po_E (call_sp (ok__law_draw A) (hr.mono (by decide)) rfl A.D__law_draw.m A.D__law_draw.k A.D__law_draw.b) (pxa_cons (px_var (pv 1)) (pxa_cons px_int pxa_nil)))) px_int) (pxb_one (pxs_setO (fun h => ps_set (i := 6) sc_law.nd rfl (Or.inl rfl) h) (po_2 (g_add K) (fun h1 h2 => pe_op (op_addA K) h1 h2) (px_var (pv 6)) (px_F (po_lst (pxa_cons (px_F (po_E (call_sp (ok__law_qodd A) (hr.mono (by decide)) rfl A.D__law_qodd.m A.D__law_qodd.k A.D__law_qodd.b) (pxa_cons (px_var (pv 1)) pxa_nil))) pxa_nil)))))) pxb_nil))))) pxb_nil)
      (pxb_cons (pxs_if (pxt_2 (g_eq K) (fun h1 h2 => pt_cmpR (kEqD K hu64) h1 h2 (nomark _)) (px_F (po_E (call_sp (ok__law_draw A) (hr.mono (by decide)) rfl A.D__law_draw.m A.D__law_draw.k A.D__law_draw.b) (pxa_cons (px_var (pv 1)) (pxa_cons px_int pxa_nil)))) px_int) (pxb_one (pxs_asg (fun h1 h2 => ps_asg h1 h2) (po_E (call_sp (ok__law_pick A) (hr.mono (by decide)) rfl A.D__law_pick.m A.D__law_pick.k A.D__law_pick.b) (pxa_cons (px_var (pv 1)) (pxa_cons (px_F (po_lst (pxa_cons (px_F (po_tup (pxa_cons px_non (pxa_cons (px_var (pv 7)) pxa_nil)))) (pxa_cons (px_F (po_tup (pxa_cons (px_var (pv 6)) (pxa_cons px_str pxa_nil)))) (pxa_cons (px_F (po_tup (pxa_cons (px_F po_newK) (pxa_cons (px_var (pv 7)) pxa_nil)))) (pxa_cons (px_F (po_tup (pxa_cons (px_var (pv 6)) (pxa_cons px_int pxa_nil)))) (pxa_cons (px_F (po_tup (pxa_cons px_int (pxa_cons (px_F (po_lst (pxa_cons px_non pxa_nil))) pxa_nil)))) pxa_nil))))))) pxa_nil))) (pxg_tup rfl (pxgs_cons (pxg_name (pg_name (i := 6) sc_law.nd rfl (Or.inl rfl))) (pxgs_cons (pxg_name (pg_name (i := 7) sc_law.nd rfl (Or.inl rfl))) pxgs_nil))))) pxb_nil)
      (pxb_cons (pxs_par2 (fun h => ps_par (i := 9) (j := 10) (by rfl) sc_law.nd rfl rfl (by decide) rfl rfl h (by rfl)) (pao_cons (po_U (px_F (po_P (call_sp (ok__law_due A) (hr.mono (by decide)) rfl A.D__law_due.m A.D__law_due.k A.D__law_due.b) (pxa_cons (px_var (pv 6)) (pxa_cons (px_var (pv 7)) pxa_nil))))) (pao_cons (po_U (px_F (po_calm (po_b g_reprR (fun h => pe_callB (call_reprR hgd hu64 hsb) (by rfl) A.b_repr (by decide +kernel) h) (pxa_cons (px_F (po_tup (pxa_cons (px_var (pv 6)) (pxa_cons (px_var (pv 7)) pxa_nil)))) pxa_nil))))) pao_nil)))
      (pxb_cons (pxs_if (pxw_t (pxw_or (pxt_2 g_neS (fun h1 h2 => pt_cmpR op_ne h1 h2 (nomark _)) (px_F (po_b g_reprA (fun h => pe_callB (call_or call_repr0 (call_reprR hgd hu64 hsb)) (by rfl) A.b_repr (by decide +kernel) h) (pxa_cons (px_F (po_P (call_sp (ok__law_told A) (hr.mono (by decide)) rfl A.D__law_told.m A.D__law_told.k A.D__law_told.b) (pxa_cons (px_var (pv 6)) (pxa_cons (px_var (pv 7)) pxa_nil)))) pxa_nil))) (px_F (po_b g_reprA (fun h => pe_callB (call_or call_repr0 (call_reprR hgd hu64 hsb)) (by rfl) A.b_repr (by decide +kernel) h) (pxa_cons (px_var (pv 9)) pxa_nil)))) (pxw_or1 (pxt_2 g_neS (fun h1 h2 => pt_cmpR op_ne h1 h2 (nomark _)) (px_F (po_calm (po_b g_reprR (fun h => pe_callB (call_reprR hgd hu64 hsb) (by rfl) A.b_repr (by decide +kernel) h) (pxa_cons (px_F (po_tup (pxa_cons (px_var (pv 6)) (pxa_cons (px_var (pv 7)) pxa_nil)))) pxa_nil)))) (px_var (pv 10)))))) (pxb_one (pxs_ret (po_U px_bl))) pxb_nil)
      (pxb_cons (pxs_if (pxt_2 (g_ne K) (fun h1 h2 => pt_cmpR (kNeD K hu64) h1 h2 (nomark _)) (px_var (pv 9)) px_str) (pxb_one pxs_continue) pxb_nil)
      (pxb_cons (pxs_par3 (fun h => ps_par3 (i := 11) (j := 12) (l := 13) (by rfl) sc_law.nd rfl rfl rfl (by decide) (by decide) (by decide) rfl rfl rfl h (by rfl)) (pao_cons (po_U (px_F (po_calm (po_Mk (make_sp A.mk_Template (fnS_of (ok_Template___init__ A) A.B_Template___init__) (hr.mono (by decide)) rfl A.g_Template) (pxa_cons (px_var (pv 6)) (pxa_cons (px_var (pv 7)) pxa_nil)))))) (pao_cons (po_U (px_F (po_b (g_tup K) (fun h => pe_callTy (cTuple K rfl) (by rfl) A.b_tuple (by decide +kernel) h) (pxa_cons (px_var (pv 6)) pxa_nil)))) (pao_cons (po_U (px_F (po_b (g_tup K) (fun h => pe_callTy (cTuple K rfl) (by rfl) A.b_tuple (by decide +kernel) h) (pxa_cons (px_var (pv 7)) pxa_nil)))) pao_nil))))
      (pxb_cons (pxs_if (pxw_t (pxw_or (pxt_2 (g_ne K) (fun h1 h2 => pt_cmpR (kNeD K hu64) h1 h2 (nomark _)) (px_F (po_pr (fun h => pe_prop h A.cl_Template A.P_Template_parameters (ok_Template_parameters A) (hr.mono (by decide)) A.B_Template_parameters .nil passL rfl) (px_var (pv 11)))) (px_F (po_b (g_len K) (fun h => pe_callB (cLen K) (by rfl) A.b_len (by decide +kernel) h) (pxa_cons (px_F (po_P (call_sp (ok__law_vused A) (hr.mono (by decide)) rfl A.D__law_vused.m A.D__law_vused.k A.D__law_vused.b) (pxa_cons (px_F (po_2 (g_add K) (fun h1 h2 => pe_op (op_addA K) h1 h2) (px_var (pv 6)) (px_var (pv 7)))) pxa_nil))) pxa_nil)))) (pxw_or1 (pxt_not (pxt_val (px_F (po_P (call_sp (ok__law_same A) (hr.mono (by decide)) rfl A.D__law_same.m A.D__law_same.k A.D__law_same.b) (pxa_cons (px_var (pv 11)) (pxa_cons (px_F (po_Mk (make_sp A.mk_Template (fnS_of (ok_Template___init__ A) A.B_Template___init__) (hr.mono (by decide)) rfl A.g_Template) (pxa_cons (px_F (po_b (g_tup K) (fun h => pe_callTy (cTuple K rfl) (by rfl) A.b_tuple (by decide +kernel) h) (pxa_cons (px_var (pv 6)) pxa_nil))) (pxa_cons (px_F (po_b (g_tup K) (fun h => pe_callTy (cTuple K rfl) (by rfl) A.b_tuple (by decide +kernel) h) (pxa_cons (px_var (pv 7)) pxa_nil))) pxa_nil)))) pxa_nil))))))))) (pxb_one (pxs_ret (po_U px_bl))) pxb_nil)
      (pxb_cons (pxs_if (pxw_t (pxw_or (pxt_2 (g_ne K) (fun h1 h2 => pt_cmpR (kNeD K hu64) h1 h2 (nomark _)) (px_F (po_P (call_sp (ok__law_same A) (hr.mono (by decide)) rfl A.D__law_same.m A.D__law_same.k A.D__law_same.b) (pxa_cons (px_var (pv 11)) (pxa_cons (px_F (po_Mk (make_sp A.mk_Template (fnS_of (ok_Template___init__ A) A.B_Template___init__) (hr.mono (by decide)) rfl A.g_Template) (pxa_cons (px_F (po_2 (g_add K) (fun h1 h2 => pe_op (op_addA K) h1 h2) (px_var (pv 6)) (px_var (pv 7)))) (pxa_cons (px_F (po_lst pxa_nil)) pxa_nil)))) pxa_nil)))) (px_F (po_2 (g_eq K) (fun h1 h2 => pe_cmpR (kEqD K hu64) h1 h2 (nomark _)) (px_var (pv 7)) (px_F (po_lst pxa_nil))))) (pxw_or (pxt_calm (pxt_eqT (z := (2, m_Template___eq__ K cs)) (fun h1 h2 => pt_cmpR (op_eqOwnT ⟨A.M_Template___eq__.at_, A.M_Template___eq__.fn⟩ A.nt_Template (ok_Template___eq__ A) (hr.mono (by decide)) A.B_Template___eq__ passL) h1 h2 (nomark _)) (px_var (pv 11)) (px_F (po_tup (pxa_cons (px_var (pv 6)) (pxa_cons (px_var (pv 7)) pxa_nil)))))) (pxw_or1 (pxt_not (pxt_neN (z := (2, m_Template___eq__ K cs)) (fun h1 h2 => pt_cmpR (op_neOwnN ⟨A.M_Template___eq__.at_, A.M_Template___eq__.fn⟩ A.nn_Template A.ne_Template A.ob_Template (ok_Template___eq__ A) (hr.mono (by decide)) A.B_Template___eq__ passL) h1 h2 (nomark _)) (px_var (pv 11)) px_non)))))) (pxb_one (pxs_ret (po_U px_bl))) pxb_nil)
      (pxb_cons (pxs_set (fun h => ps_set (i := 5) sc_law.nd rfl (Or.inl rfl) h) (po_back (fun h => pe_back h) (px_var (pv 6))))
      (pxb_cons (pxs_if (pxt_2 (g_ne K) (fun h1 h2 => pt_cmpR (kNeD K hu64) h1 h2 (nomark _)) (px_F (po_P (call_sp (ok__law_same A) (hr.mono (by decide)) rfl A.D__law_same.m A.D__law_same.k A.D__law_same.b) (pxa_cons (px_var (pv 11)) (pxa_cons (px_F (po_calm (po_Mk (make_sp A.mk_Template (fnS_of (ok_Template___init__ A) A.B_Template___init__) (hr.mono (by decide)) rfl A.g_Template) (pxa_cons (px_var (pv 5)) (pxa_cons (px_var (pv 7)) pxa_nil))))) pxa_nil)))) (px_F (po_2 (g_eq K) (fun h1 h2 => pe_cmpR (kEqD K hu64) h1 h2 (nomark _)) (px_var (pv 5)) (px_var (pv 6))))) (pxb_one (pxs_ret (po_U px_bl))) pxb_nil)
      (pxb_cons (pxs_lclr (ps_expr (pe_bm0 PySem.F.plainAttrs_list PySem.F.slot_list_clear PySem.F.type_list_clear mt_clear (pv 6))))
      (pxb_cons (pxs_app (ee := .Name "" ⟨0, 0, 0, 0⟩) (fun h => ps_expr (pe_bm PySem.F.plainAttrs_list PySem.F.slot_list_append PySem.F.type_list_append mt_append (pv 7) h)) (pxa_cons px_non pxa_nil))
      (pxb_one (pxs_if (pxt_2 g_neS (fun h1 h2 => pt_cmpR op_ne h1 h2 (nomark _)) (px_F (po_b g_reprR (fun h => pe_callB (call_reprR hgd hu64 hsb) (by rfl) A.b_repr (by decide +kernel) h) (pxa_cons (px_F (po_tup (pxa_cons (px_F (po_pr (fun h => pe_prop h A.cl_Template A.P_Template_put_rows (ok_Template_put_rows A) (hr.mono (by decide)) A.B_Template_put_rows .nil passL rfl) (px_var (pv 11)))) (pxa_cons (px_F (po_pr (fun h => pe_prop h A.cl_Template A.P_Template_taken_rows (ok_Template_taken_rows A) (hr.mono (by decide)) A.B_Template_taken_rows .nil passL rfl) (px_var (pv 11)))) pxa_nil)))) pxa_nil))) (px_F (po_b g_reprR (fun h => pe_callB (call_reprR hgd hu64 hsb) (by rfl) A.b_repr (by decide +kernel) h) (pxa_cons (px_F (po_tup (pxa_cons (px_var (pv 12)) (pxa_cons (px_var (pv 13)) pxa_nil)))) pxa_nil)))) (pxb_one (pxs_ret (po_U px_bl))) pxb_nil))))))))))))))))))
      (pxb_one (pxs_ret (po_U px_bl)))))
end
end Q
/-! plain facts about the combinators -/
/-! plain facts about texts -/
namespace Q
open PySem L2 PySem.Spec PyProof.Rows
variable {K : PySem.W.Frag} {cs : Cs}
theorem bls_map {α : Type} (f : α → Bool) : ∀ xs : List α, blsD (xs.map fun x => D.bl (f x)) = some (xs.map f)
  | [] => rfl
  | x :: xs => by rw [List.map_cons, blsD, bls_map f xs]; rfl
end Q
namespace Q
open PySem L2 PySem.Spec PyProof.Rows
variable {K : PySem.W.Frag} {cs : Cs}
theorem cutD_take {α : Type} (xs : List α) (k : Nat) : cutD xs none (some (k : Int)) = xs.take k := by
  unfold cutD
  rw [HT.sIx_none, HT.sIx_nat, List.drop_zero, Nat.sub_zero]
  rcases Nat.le_total k xs.length with h | h
  · rw [Nat.min_eq_left h]
  · rw [Nat.min_eq_right h, List.take_length, List.take_of_length_le h]
end Q
namespace Q
open PySem L2 PySem.Spec PyProof.Rows
theorem low_lt {c : Nat} (h : lowC c = true) : c < 0x110000 := by
  have h1 : c ∈ small.cps.toList := of_decide_eq_true h
  have h2 : ∀ d ∈ small.cps.toList, d < 0x110000 := by decide +kernel
  exact h2 c h1
theorem word_len {s : Str} (h : wordB s = true) : 1 ≤ s.length ∧ s.length ≤ 8 := by
  unfold wordB at h
  rw [Bool.and_eq_true, Bool.and_eq_true] at h
  have h1 := of_decide_eq_true h.1.1
  have h2 := of_decide_eq_true h.1.2
  omega
theorem word_ok {s : Str} (h : wordB s = true) : PyData.strOk s = true := by
  unfold wordB at h
  rw [Bool.and_eq_true] at h
  unfold PyData.strOk
  rw [← Array.all_toList, List.all_eq_true]
  intro c hc
  exact decide_eq_true (low_lt (List.all_eq_true.mp h.2 c hc))
/-! ### the drawn words -/
abbrev tl (s : Str) : List Nat := s.cps.toList
def qs (k : Nat) : Str := Txt.mul "q" (if k % 3 = 2 then 1 else 0)
end Q
/-! loops with an invariant; dict comprehensions -/
namespace Q
open PySem L2 PySem.Spec PyProof.Rows
/-- an expression that changes nothing -/
def Ev (f : Ex) (E : EK) (st : Ps) (d : D) : Prop := ∀ Q : R → Ps → Prop, Q (.v d) st → f E st Q
def EvA (g : Ax) (E : EK) (st : Ps) (ds : List D) : Prop := ∀ Q : List R → Ps → Prop, Q (ds.map R.v) st → g E st Q
theorem evA_nil {E : EK} {st : Ps} : EvA xNil E st [] := fun _ h => h
theorem evA_cons {f : Ex} {g : Ax} {E : EK} {st : Ps} {d : D} {ds : List D} (h1 : Ev f E st d) (h2 : EvA g E st ds) : EvA (xCons f g) E st (d :: ds) := fun _ h => h1 _ (h2 _ h)
theorem frzs_v (st : Ps) : ∀ ds : List D, frzs st (ds.map R.v) = some (ds, st)
  | [] => rfl
  | d :: ds => by
    rw [List.map_cons, frzs]
    show (match frzs st (ds.map R.v) with | none => none | some q' => some (d :: q'.1, q'.2)) = _
    rw [frzs_v st ds]
theorem looks_v (st : Ps) : ∀ ds : List D, looks st (ds.map R.v) = some ds
  | [] => rfl
  | d :: ds => by
    rw [List.map_cons, looks, looks_v st ds]
    rfl
theorem xMk_of {C : Addr} {rw : Bool} {np : Nat} {m : MI} {ga : Ax} {E : EK} {st : Ps} {Q : O → Ps → Prop} (ds : List D) (ha : EvA ga E st ds) (hr : rw = true → st.rw = true) (hn : ds.length = np) (h : ∀ x, m x [] ds (fun C fs S' => E C fs { st with S := S' }) st.S fun fs S' => Q (.d (.ins C fs)) { st with S := S' }) : xMk C rw np m ga E st Q := by
  refine ha _ ⟨hr, ?_⟩
  rw [frzs_v]
  exact ⟨hn, h⟩
theorem xE_of {rw : Bool} {np : Nat} {m : MF} {ga : Ax} {E : EK} {st : Ps} {Q : O → Ps → Prop} (ds : List D) (ha : EvA ga E st ds) (hr : rw = true → st.rw = true) (hn : ds.length = np) (h : m ds (fun C fs S' => E C fs { st with S := S' }) st.S fun o S' => Q o { st with S := S' }) : xE rw np m ga E st Q := by
  refine ha _ ⟨hr, ?_⟩
  rw [frzs_v]
  exact ⟨hn, h⟩
theorem xP_of {np : Nat} {m : MF} {ga : Ax} {E : EK} {st : Ps} {Q : O → Ps → Prop} (ds : List D) (ha : EvA ga E st ds) (hn : ds.length = np) (h : m ds (fun C fs S' => E C fs { st with S := S' }) st.S fun o S' => if isSc o = true then Q o st else Q o { st with S := S' }) : xP np m ga E st Q := by
  refine ha _ ?_
  unfold cP
  rw [looks_v, frzs_v]
  exact ⟨hn, h⟩
theorem at0 {α : Type} (x : α) (xs : List α) : atI (x :: xs) 0 = some x := atI_nat (j := 0) rfl
theorem at1 {α : Type} (x y : α) (xs : List α) : atI (x :: y :: xs) 1 = some y := atI_nat (j := 1) rfl
theorem at2 {α : Type} (x y z : α) (xs : List α) : atI (x :: y :: z :: xs) 2 = some z := atI_nat (j := 2) rfl
theorem eqv_int (a b : Int) : PyData.eqv (.int a) (.int b) = decide (a = b) := by
  unfold PyData.eqv
  by_cases h : a = b
  · subst h
    simp
  · simp [h]
theorem eqI {a b : Int} : eqG (.int a) (.int b) = some (.d (.bl (decide (a = b)))) := by
  show some (O.d (.bl (PyData.eqv (.int a) (.int b)))) = _
  rw [eqv_int]
theorem neI {a b : Int} : neG (.int a) (.int b) = some (.d (.bl (!decide (a = b)))) := by
  show some (O.d (.bl (!PyData.eqv (.int a) (.int b)))) = _
  rw [eqv_int]
theorem rng_len (m : Nat) : (rngD 0 ((m : Nat) : Int).toNat).length = m := by
  unfold rngD
  rw [List.length_map, List.length_range, Int.toNat_natCast]
theorem seq_go {f g : Sx} {E : EK} {K : En} {st : Ps} (h : ∀ N : Ps → Prop, (∀ st', g E K st' → N st') → f E ⟨N, K.rt, K.bk, K.ct⟩ st) : sSeq f g E K st := h _ fun _ z => z
theorem forW_by {tg : Tg} {b : Sx} {E : EK} {K : En} (I : List D → Ps → Prop) (h0 : ∀ st, I [] st → K.nx st) (h1 : ∀ d ds st, I (d :: ds) st → ∀ N : Ps → Prop, (∀ st', I ds st' → N st') → tg d st fun st' => b E ⟨N, K.rt, K.nx, N⟩ st') : ∀ (ds : List D) (st : Ps), I ds st → forW tg b E K ds st
  | [], st, h => h0 st h
  | d :: ds, st, h => h1 d ds st h _ fun st' z => forW_by I h0 h1 ds st' z
theorem lcW_by {tg : Tg} {tt : Tx} {f : Ex} {vs : List Nat} {Q : O → Ps → Prop} (I : List D → List D → Ps → Prop) (h0 : ∀ acc st, I [] acc st → Q (.lst acc) (st.wp vs))
    (h1 : ∀ d ds acc st, I (d :: ds) acc st → ∀ R : List D → Ps → Prop, (∀ acc' st', I ds acc' st' → R acc' st') → tg d (st.wp vs) fun st2 => tt E0k st2 fun b st3 => if b = true then f E0k st3 fun r st4 => opt (frz st4 r) fun q => acc.length < sizeLine ∧ R (acc ++ [q.1]) q.2 else R acc st3) :
    ∀ (ds acc : List D) (st : Ps), I ds acc st → lcW tg tt f vs Q ds acc st
  | [], acc, st, h => h0 acc st h
  | d :: ds, acc, st, h => h1 d ds acc st h (fun acc' st' => lcW tg tt f vs Q ds acc' st') fun acc' st' z => lcW_by I h0 h1 ds acc' st' z
end Q
namespace Q
open PySem L2 PySem.Spec PyProof.Rows
variable {K : PySem.W.Frag} {cs : Cs} {E : EF} {R : List Cell} {Q : O → List Cell → Prop} {n : Nat}
/-! draws; the pen is the first cell -/
theorem w_draw {m : Nat} (hn : n < 2 ^ 60) (h0 : 0 < m) (h1 : m < 1000) (h : ∀ k : Nat, k < m → Q (.d (.int k)) (.pen (n + 1) :: R)) : m__law_draw [.cell 0, .int m] E (.pen n :: R) Q := by
  refine ⟨hn, by omega, by omega, fun d d0 d1 => ?_⟩
  have := h d.toNat (by omega)
  rwa [Int.toNat_of_nonneg d0] at this
theorem w_pick {xs : List D} (hn : n < 2 ^ 60) (h0 : xs ≠ []) (h1 : xs.length < 1000) (h : ∀ x ∈ xs, Q (.d x) (.pen (n + 1) :: R)) : m__law_pick K cs [.cell 0, .lst xs] E (.pen n :: R) Q := by
  unfold m__law_pick b__law_pick
  simp only [mk, sRet, sRetN, sSeq, sNx, sIf, sSet, sSetO, sEx, xU, xF, xB, xCons, xNil, xV, xC, xMv, st0, opt, looks, look, frz, frzs, isiG, tyG, clsG, clssG, O.toD, xAnd, xOr, xNot, xIf, xIfO, xT, xTO, xNotT, xAndT, xOrT, xIfT, xYes, xOp, xUn, xTup, xLst, xCh, xLc, xDc, iA, itemsD, gN, gT, gsC, gsN, sFor, sAsg, isB, iiG0, lenG, listG, tupG, leG, ltG, geG, gtG, intG, Ps.wp, wipeO, xP, xE, cP, cE, isSc, List.map_cons, List.map_nil, List.cons_append, List.nil_append, List.length_cons, List.length_nil, List.getElem?_cons_zero, List.getElem?_cons_succ, List.replicate, List.set_cons_zero, List.set_cons_succ, Nat.reduceSub, Nat.reduceAdd, if_true, if_false, Bool.false_eq_true, reduceCtorEq, truD, Bool.not_true, Bool.not_false, Option.map_some, at0, at1, at2, eqI, neI, true_and, and_true, implies_true, ne_eq, not_false_eq_true, Nat.reduceEqDiff, Bool.not_true]
  refine w_draw hn (List.length_pos_iff.mpr h0) h1 fun k hk => ?_
  simp only [mk, sRet, sRetN, sSeq, sNx, sIf, sSet, sSetO, sEx, xU, xF, xB, xCons, xNil, xV, xC, xMv, st0, opt, looks, look, frz, frzs, isiG, tyG, clsG, clssG, O.toD, xAnd, xOr, xNot, xIf, xIfO, xT, xTO, xNotT, xAndT, xOrT, xIfT, xYes, xOp, xUn, xTup, xLst, xCh, xLc, xDc, iA, itemsD, gN, gT, gsC, gsN, sFor, sAsg, isB, iiG0, lenG, listG, tupG, leG, ltG, geG, gtG, intG, Ps.wp, wipeO, xP, xE, cP, cE, isSc, List.map_cons, List.map_nil, List.cons_append, List.nil_append, List.length_cons, List.length_nil, List.getElem?_cons_zero, List.getElem?_cons_succ, List.replicate, List.set_cons_zero, List.set_cons_succ, Nat.reduceSub, Nat.reduceAdd, if_true, if_false, Bool.false_eq_true, reduceCtorEq, truD, Bool.not_true, Bool.not_false, Option.map_some, at0, at1, at2, eqI, neI, true_and, and_true, implies_true, ne_eq, not_false_eq_true, Nat.reduceEqDiff, ixD, atI_nat (List.getElem?_eq_getElem hk), Option.map_some]
  exact h _ (List.getElem_mem hk)
/-! the words -/
theorem addL {a b : List D} (h : a.length + b.length ≤ 100000) : addG (.lst a) (.lst b) = some (.lst (a ++ b)) := by
  show (if a.length + b.length ≤ sizeLine then _ else _) = _
  rw [if_pos (sizeLine_le h)]
end Q
/-! steps of a plain law -/
namespace Q
open PySem L2 PySem.Spec PyProof.Rows
theorem xF_go {f : Ox} {E : EK} {st : Ps} {Q : _root_.Q.R → Ps → Prop} (h : f E st fun o st' => Q (.v o.toD) st') : xF f E st Q := h
theorem xV_go {i : Nat} {E : EK} {st : Ps} {Q : _root_.Q.R → Ps → Prop} {d : D} (e : st.ρ[i]? = some (.d d)) (h : Q (.v d) st) : xV i E st Q := by
  unfold xV
  rw [e]
  exact h
theorem xV_lst {i : Nat} {E : EK} {st : Ps} {Q : _root_.Q.R → Ps → Prop} {xs : List D} (e : st.ρ[i]? = some (.lst xs)) (h : Q (.ref i) st) : xV i E st Q := by
  unfold xV
  rw [e]
  exact h
variable {E : EK}
theorem ev_V {i : Nat} {d : D} {st : Ps} (h : st.ρ[i]? = some (.d d)) : Ev (xV i) E st d := fun Q z => xV_go h z
theorem ixLn {xs : List D} {k : Nat} {v : D} (h : xs[k]? = some v) : ixD (.lst xs) (.int (k : Int)) = some (.d v) := by
  show (atI xs (k : Int)).map O.d = _
  rw [atI_nat h]
  rfl
theorem wp_un {st : Ps} {i : Nat} (hi : st.ρ[i]? = some .un) : st.wp [i] = st := by
  obtain ⟨h, e⟩ := List.getElem?_eq_some_iff.mp hi
  unfold Ps.wp
  simp only [wipeO]
  rw [← e, List.set_getElem_self]
theorem wp_set {st : Ps} {i : Nat} {o : O} (hi : st.ρ[i]? = some .un) : Ps.wp { st with ρ := st.ρ.set i o } [i] = st := by
  obtain ⟨h, e⟩ := List.getElem?_eq_some_iff.mp hi
  unfold Ps.wp
  simp only [wipeO, List.set_set]
  rw [← e, List.set_getElem_self]
end Q
/-! plain facts: == of texts, tuples and lists of them; schemas as plain data -/
namespace Q
open PySem L2 PySem.Spec PyProof.Rows
theorem map_inj {α β : Type} {f : α → β} (h : ∀ x y, f x = f y → x = y) : ∀ {xs ys : List α}, xs.map f = ys.map f → xs = ys
  | [], [], _ => rfl
  | [], _ :: _, e => by cases e
  | _ :: _, [], e => by cases e
  | x :: xs, y :: ys, e => by
    rw [List.map_cons, List.map_cons] at e
    injection e with e1 e2
    rw [h x y e1, map_inj h e2]
/-! schemas -/
end Q
/-! a small calculus: what an expression, a test tells where nothing is changed -/
namespace Q
open PySem L2 PySem.Spec PyProof.Rows
section
variable {E : EK} {st : Ps} {f f1 f2 f3 : Ex} {t u : Tx} {g h0 : Ox} {a b : Bool} {d d1 d2 d3 : D} {o : O} {ga : Ax} {ds : List D}
def Tv (t : Tx) (E : EK) (st : Ps) (b : Bool) : Prop := ∀ Q : Bool → Ps → Prop, Q b st → t E st Q
def Eo (g : Ox) (E : EK) (st : Ps) (o : O) : Prop := ∀ Q : O → Ps → Prop, Q o st → g E st Q
theorem tv_ev (h : Ev f E st (.bl b)) : Tv (xT f) E st b := fun Q z => h _ z
theorem tv_not (h : Tv t E st b) : Tv (xNotT t) E st (!b) := fun Q z => h _ z
theorem tv_yes : Tv xYes E st true := fun Q z => z
theorem tv_or (h : Tv t E st a) (k : a = false → Tv u E st b) : Tv (xOrT t u) E st (a || b) := fun Q z => h _ (by
  cases a with
  | true => rw [if_pos rfl]; exact z
  | false => rw [if_neg Bool.false_ne_true]; exact k rfl _ z)
theorem tv_and (h : Tv t E st a) (k : a = true → Tv u E st b) : Tv (xAndT t u) E st (a && b) := fun Q z => h _ (by
  cases a with
  | true => rw [if_pos rfl]; exact k rfl _ z
  | false => rw [if_neg Bool.false_ne_true]; exact z)
theorem tv_o (h : Eo g E st (.d (.bl b))) : Tv (xTO g) E st b := fun Q z => h _ z
theorem ev_o (h : Eo g E st o) : Ev (xF g) E st o.toD := fun Q z => h _ z
theorem ev_od (h : Eo g E st (.d d)) : Ev (xF g) E st d := fun Q z => h _ z
theorem eo_u (h : Ev f E st d) : Eo (xU f) E st (.d d) := fun Q z => h _ z
theorem ev_C : Ev (xC d) E st d := fun Q z => z
theorem eo_op {gg : D → D → Option O} (h1 : Ev f1 E st d1) (h2 : Ev f2 E st d2) (h : gg d1 d2 = some o) : Eo (xOp gg f1 f2) E st o := fun Q z => h1 _ (h2 _ (by simp only [look, opt, h]; exact z))
theorem eo_b {gg : Gc} (ha : EvA ga E st ds) (h : ∀ J : O → Prop, J o → gg ds J) : Eo (xB gg ga) E st o := fun Q z => ha _ (by rw [looks_v]; exact h _ z)
theorem eo_b1 {gg : Gc} (h1 : Ev f E st d) (h : ∀ J : O → Prop, J o → gg [d] J) : Eo (xB gg (xCons f xNil)) E st o := eo_b (evA_cons h1 evA_nil) h
theorem eo_un {gg : List Cell → D → (O → Prop) → Prop} (h1 : Ev f E st d) (h : ∀ J : O → Prop, J o → gg st.S d J) : Eo (xUn gg f) E st o := fun Q z => h1 _ (h _ z)
theorem eo_ch {g1 g2 : D → D → Option O} (h1 : Ev f1 E st d1) (h2 : Ev f2 E st d2) (h3 : Ev f3 E st d3) (e1 : g1 d1 d2 = some (.d (.bl a))) (e2 : a = true → g2 d2 d3 = some (.d (.bl b))) : Eo (xCh g1 g2 f1 f2 f3) E st (.d (.bl (a && b))) := fun Q z => h1 _ (h2 _ (by
  simp only [look, opt, e1, isB]
  cases a with
  | true =>
    rw [if_pos rfl]
    exact h3 _ (by simp only [e2 rfl]; exact z)
  | false =>
    rw [if_neg Bool.false_ne_true]
    exact z))
theorem ev_and (h : Ev f1 E st (.bl a)) (k : a = true → Ev f2 E st (.bl b)) : Ev (xAnd f1 f2) E st (.bl (a && b)) := fun Q z => h _ (by
  cases a with
  | true => exact (if_pos rfl).mpr (k rfl _ z)
  | false => exact (if_neg Bool.false_ne_true).mpr z)
theorem ev_or (h : Ev f1 E st (.bl a)) (k : a = false → Ev f2 E st (.bl b)) : Ev (xOr f1 f2) E st (.bl (a || b)) := fun Q z => h _ (by
  cases a with
  | true => exact (if_pos rfl).mpr z
  | false => exact (if_neg Bool.false_ne_true).mpr (k rfl _ z))
theorem ev_not (h : Ev f1 E st (.bl a)) : Ev (xNot f1) E st (.bl (!a)) := fun Q z => h _ z
theorem eo_P {np : Nat} {m : MF} (ha : EvA ga E st ds) (hn : ds.length = np) (h : ∀ (E' : EF) (Q : O → List Cell → Prop), Q o st.S → m ds E' st.S Q) : Eo (xP np m ga) E st o := fun Q z => xP_of ds ha hn (h _ _ (by
  show if isSc o = true then Q o st else Q o st
  split <;> exact z))
theorem sIf_tv {p q : Sx} {K : En} (h : Tv t E st b) (y : b = true → p E K st) (n : b = false → q E K st) : sIf t p q E K st := h _ (by
  cases b with
  | true => rw [if_pos rfl]; exact y rfl
  | false => rw [if_neg Bool.false_ne_true]; exact n rfl)
theorem sSet_eo {i : Nat} {K : En} (h : Eo g E st o) (k : K.nx { st with ρ := st.ρ.set i (.d o.toD) }) : sSet i g E K st := h _ k
theorem sRet_eo {K : En} (h : Eo g E st o) (k : K.rt o st) : sRet g E K st := h _ k
theorem eo_tup (ha : EvA ga E st ds) (hl : ds.length ≤ 1000) : Eo (xTup ga) E st (.d (.tup ds)) := fun Q z => ha _ (by
  rw [frzs_v]
  exact ⟨sizeLine_le (show ds.length ≤ 100000 by omega), z⟩)
theorem eo_lst (ha : EvA ga E st ds) (hl : ds.length ≤ 1000) : Eo (xLst ga) E st (.lst ds) := fun Q z => ha _ (by
  rw [frzs_v]
  exact ⟨sizeLine_le (show ds.length ≤ 100000 by omega), z⟩)
theorem lcP_go {v : Nat} {tt : Tx} {ff : Ex} {p : D → Bool} {gg : D → D} {Q : O → Ps → Prop} : ∀ (ds acc : List D) (st' : Ps), st'.wp [v] = st → acc.length + ds.length ≤ sizeLine → (∀ d ∈ ds, Tv tt E0k { st with ρ := st.ρ.set v (.d d) } (p d)) → (∀ d ∈ ds, p d = true → Ev ff E0k { st with ρ := st.ρ.set v (.d d) } (gg d)) →
    (∀ d : D, Ps.wp { st with ρ := st.ρ.set v (.d d) } [v] = st) → Q (.lst (acc ++ (ds.filter p).map gg)) st → lcW (gN v) tt ff [v] Q ds acc st'
  | [], acc, st', e, _, _, _, _, q => by
    unfold lcW
    rw [e]
    simpa using q
  | d :: ds, acc, st', e, hl, ht, hf, hw, q => by
    rw [List.length_cons] at hl
    unfold lcW
    rw [e]
    refine ht d List.mem_cons_self _ ?_
    cases hp : p d with
    | true =>
      rw [if_pos rfl]
      refine hf d List.mem_cons_self hp _ ⟨by omega, lcP_go ds _ _ (hw d) (by rw [List.length_append, List.length_singleton]; omega) (fun x hx => ht x (List.mem_cons_of_mem _ hx)) (fun x hx => hf x (List.mem_cons_of_mem _ hx)) hw ?_⟩
      rw [List.filter_cons_of_pos hp, List.map_cons] at q
      rw [List.append_assoc]
      exact q
    | false =>
      rw [if_neg Bool.false_ne_true]
      refine lcP_go ds _ _ (hw d) (by omega) (fun x hx => ht x (List.mem_cons_of_mem _ hx)) (fun x hx => hf x (List.mem_cons_of_mem _ hx)) hw ?_
      rw [List.filter_cons_of_neg (by rw [hp]; exact Bool.false_ne_true)] at q
      exact q
theorem eo_lc {v : Nat} {tt : Tx} {ff : Ex} (p : D → Bool) (gg : D → D) (hv : st.ρ[v]? = some .un) (h1 : Ev f E st d) (hi : itemsD d = some ds) (hl : ds.length ≤ 100000) (ht : ∀ x ∈ ds, Tv tt E0k { st with ρ := st.ρ.set v (.d x) } (p x)) (hf : ∀ x ∈ ds, p x = true → Ev ff E0k { st with ρ := st.ρ.set v (.d x) } (gg x)) :
    Eo (xLc (iA f) (gN v) tt ff [v]) E st (.lst ((ds.filter p).map gg)) := fun Q z => h1 _ (by
  simp only [frz, opt, hi]
  exact lcP_go ds [] st (wp_un hv) (by rw [List.length_nil, Nat.zero_add]; exact sizeLine_le hl) ht hf (fun x => wp_set hv) (by rw [List.nil_append]; exact z))
end
end Q
/-! values of any kind: words, columns with marks -/
namespace Q
open PySem L2 PySem.Spec PyProof.Rows
variable {K : PySem.W.Frag} {cs : Cs} {E : EF} {S : List Cell} {Q : O → List Cell → Prop}
inductive Pv : D → Prop
  | non : Pv .non
  | bl (b : Bool) : Pv (.bl b)
  | int (i : Int) : Pv (.int i)
  | str (s : Str) : s.length ≤ 1000 → Pv (.str s)
  | lst (xs : List D) : xs.length ≤ 1000 → (∀ x ∈ xs, Pv x) → Pv (.lst xs)
  | tup (xs : List D) : xs.length ≤ 1000 → (∀ x ∈ xs, Pv x) → Pv (.tup xs)
  | dK (kvs : List (Key × D)) : Pv (.dK kvs)
def isTup : D → Bool
  | .tup _ => true
  | _ => false
def isLT : D → Bool
  | .lst _ => true
  | .tup _ => true
  | _ => false
def wB : D → Bool
  | .str s => wordB s
  | _ => false
theorem isiT {x : D} (k : Pv x) {J : O → Prop} (h : J (.d (.bl (isTup x)))) : isiG K [x, .ty "tuple"] J := by cases k <;> exact h
theorem isiLT {x : D} (k : Pv x) {J : O → Prop} (h : J (.d (.bl (isLT x)))) : isiG K [x, .tup [.ty "list", .ty "tuple"]] J := by cases k <;> exact h
/-- whether the sign of a text of one sign is a small letter -/
def sigB : D → Bool
  | .str x => lowC (x.cps.toList.headD 0)
  | _ => false
theorem sig_in (neg : Bool) (c : Nat) : inG neg (.str ⟨#[c]⟩) (.str "abcdefghijklmnopqrstuvwxyz") = some (.d (.bl (if neg then !lowC c else lowC c))) := rfl
theorem len_str {s : Str} {E : EK} {st : Ps} {i : Nat} (hv : st.ρ[i]? = some (.d (.str s))) (hl : s.length ≤ 1000) : Ev (xF (xB lenG (xCons (xV i) xNil))) E st (.int s.length) := ev_od (eo_b1 (ev_V hv) fun J z => ⟨sizeLine_le (by omega), z⟩)
end Q
/-! words, whole numbers, cells of any value -/
namespace Q
open PySem L2 PySem.Spec PyProof.Rows
variable {K : PySem.W.Frag} {cs : Cs} {E : EF} {S : List Cell} {Q : O → List Cell → Prop}
def isStr : D → Bool
  | .str _ => true
  | _ => false
def isInt : D → Bool
  | .int _ => true
  | _ => false
def isBl : D → Bool
  | .bl _ => true
  | _ => false
theorem isiS {x : D} (k : Pv x) {J : O → Prop} (h : J (.d (.bl (isStr x)))) : isiG K [x, .ty "str"] J := by cases k <;> exact h
theorem isiI {x : D} (k : Pv x) {J : O → Prop} (h : J (.d (.bl (isInt x || isBl x)))) : isiG K [x, .ty "int"] J := by cases k <;> exact h
theorem isiB {x : D} (k : Pv x) {J : O → Prop} (h : J (.d (.bl (isBl x)))) : isiG K [x, .ty "bool"] J := by cases k <;> exact h
theorem w_is_word_any {v : D} (k : Pv v) (h : Q (.d (.bl (wB v))) S) : m_is_word K cs [v] E S Q := by
  unfold m_is_word b_is_word
  simp only [mk, st0, List.map_cons, List.map_nil, List.cons_append, List.nil_append, List.length_cons, List.length_nil, Nat.reduceSub, Nat.reduceAdd, List.replicate]
  have hi : ∀ st : Ps, st.ρ[0]? = some (.d v) → Ev (xF (xB (isiG K) (xCons (xV 0) (xCons (xC (.ty "str")) xNil)))) (fun C fs st => E C fs st.S) st (.bl (isStr v)) := fun st hs => ev_od (eo_b (evA_cons (ev_V hs) (evA_cons ev_C evA_nil)) fun J z => isiS k z)
  cases hs : isStr v with
  | false =>
    rw [hs] at hi
    have e : wB v = false := by cases v <;> first | rfl | cases hs
    rw [e] at h
    exact sRet_eo (eo_u (ev_and (b := false) (hi _ rfl) fun z => nomatch z)) h
  | true =>
    rw [hs] at hi
    cases k with
    | str s hl =>
      have e : wB (.str s) = (true && ((decide ((1 : Int) ≤ s.length) && decide ((s.length : Int) ≤ 8)) && (s.cps.toList.map lowC).all id)) := by
        rw [List.all_map, Bool.true_and]
        rfl
      rw [e] at h
      refine sRet_eo (eo_u (ev_and (hi _ rfl) fun _ => ev_and (ev_od (eo_ch ev_C (len_str rfl hl) ev_C rfl fun _ => rfl)) fun _ => ev_od (eo_b1 (ev_o (eo_lc (fun _ => true) (fun d => .bl (sigB d)) rfl (ev_V rfl) rfl ?_ (fun _ _ => tv_yes) ?_)) ?_))) h
      · rw [List.length_map, show s.cps.toList.length = s.length from Array.length_toList]
        omega
      · intro x hx _
        obtain ⟨c, _, rfl⟩ := List.mem_map.mp hx
        exact ev_od (eo_op (ev_V rfl) ev_C (sig_in false c))
      · intro J z
        have e2 : ((s.cps.toList.map fun c => D.str ⟨#[c]⟩).filter fun _ => true).map (fun d => D.bl (sigB d)) = (s.cps.toList.map lowC).map D.bl := by
          rw [List.filter_eq_self.mpr fun _ _ => rfl, List.map_map, List.map_map]
          rfl
        show allG [.lst _] J
        rw [e2]
        show opt (blsD _) _
        have := bls_map id (s.cps.toList.map lowC)
        rw [List.map_id] at this
        rw [show (List.map D.bl (List.map lowC s.cps.toList)) = List.map (fun x => D.bl (id x)) (List.map lowC s.cps.toList) from rfl, this]
        exact z
    | _ => cases hs
theorem w_lis_word_any {v : D} (k : Pv v) (h : Q (.d (.bl (wB v))) S) : m__law_is_word_here K cs [v] E S Q := by
  unfold m__law_is_word_here b__law_is_word_here
  simp only [mk, st0, List.map_cons, List.map_nil, List.cons_append, List.nil_append, List.length_cons, List.length_nil, Nat.reduceSub, Nat.reduceAdd, List.replicate]
  refine seq_go fun N h1 => ?_
  have hi : ∀ st : Ps, st.ρ[0]? = some (.d v) → Tv (xNotT (xT (xF (xB (isiG K) (xCons (xV 0) (xCons (xC (.ty "str")) xNil)))))) (fun C fs st => E C fs st.S) st (!isStr v) := fun st hs => tv_not (tv_ev (ev_od (eo_b (evA_cons (ev_V hs) (evA_cons ev_C evA_nil)) fun J z => isiS k z)))
  cases hs : isStr v with
  | false =>
    rw [hs] at hi
    have e : wB v = false := by cases v <;> first | rfl | cases hs
    rw [e] at h
    exact sIf_tv (tv_or (b := true) (hi _ rfl) fun z => nomatch z) (fun _ => sRet_eo (eo_u ev_C) h) fun z => nomatch z
  | true =>
    rw [hs] at hi
    cases k with
    | str s hl =>
      refine sIf_tv (tv_or (hi _ rfl) fun _ => tv_not (tv_o (eo_ch ev_C (len_str rfl hl) ev_C rfl fun _ => rfl))) (fun z => ?_) fun z => h1 _ ?_
      · have e : wB (.str s) = false := by
          have z : (!(decide ((1 : Int) ≤ s.length) && decide ((s.length : Int) ≤ 8))) = true := z
          rw [Bool.not_eq_true'] at z
          show (decide ((1 : Int) ≤ s.length) && decide ((s.length : Int) ≤ 8) && _) = false
          rw [z]
          rfl
        rw [e] at h
        exact sRet_eo (eo_u ev_C) h
      · have z : (!(decide ((1 : Int) ≤ s.length) && decide ((s.length : Int) ≤ 8))) = false := z
        rw [Bool.not_eq_false'] at z
        refine sRet_eo (eo_u (ev_od (eo_op (ev_o (eo_lc (fun d => !sigB d) id rfl (ev_V rfl) rfl ?_ ?_ ?_)) (ev_o (eo_lst evA_nil (Nat.zero_le _))) rfl))) ?_
        · rw [List.length_map, show s.cps.toList.length = s.length from Array.length_toList]
          omega
        · intro x hx
          obtain ⟨c, _, rfl⟩ := List.mem_map.mp hx
          exact tv_o (eo_op (ev_V rfl) ev_C (sig_in true c))
        · exact fun x _ _ => ev_V rfl
        · have e : wB (.str s) = (List.map id (List.filter (fun d => !sigB d) (s.cps.toList.map fun c => D.str ⟨#[c]⟩))).isEmpty := by
            rw [List.map_id]
            show (decide (1 ≤ (s.length : Int)) && decide ((s.length : Int) ≤ 8) && s.cps.toList.all lowC) = _
            rw [z, Bool.true_and, Bool.eq_iff_iff, List.isEmpty_iff, List.filter_eq_nil_iff, List.all_eq_true]
            refine ⟨fun q x hx => ?_, fun q c hc => ?_⟩
            · obtain ⟨c, hc, rfl⟩ := List.mem_map.mp hx
              have := q c hc
              show ¬ (!lowC c) = true
              rw [this]
              decide
            · have := q _ (List.mem_map.mpr ⟨c, hc, rfl⟩)
              have this : ¬ (!lowC c) = true := this
              simpa using this
          rw [e] at h
          exact h
    | _ => cases hs
theorem isInt_of (x : D) : ((isInt x || isBl x) && !isBl x) = isInt x := by cases x <;> rfl
theorem w_is_integer {v : D} (k : Pv v) (h : Q (.d (.bl (isInt v))) S) : m_is_integer K cs [v] E S Q := by
  unfold m_is_integer b_is_integer
  simp only [mk, st0, List.map_cons, List.map_nil, List.cons_append, List.nil_append, List.length_cons, List.length_nil, Nat.reduceSub, Nat.reduceAdd, List.replicate]
  rw [← isInt_of v] at h
  exact sRet_eo (eo_u (ev_and (ev_od (eo_b (evA_cons (ev_V rfl) (evA_cons ev_C evA_nil)) fun J z => isiI k z)) fun _ => ev_not (ev_od (eo_b (evA_cons (ev_V rfl) (evA_cons ev_C evA_nil)) fun J z => isiB k z)))) h
/-- a whole number from 0 to 3 -/
def numB : D → Bool
  | .int i => decide (0 ≤ i) && decide (i ≤ 3)
  | _ => false
def celB (v : D) : Bool := numB v || wB v
theorem w_is_within {v : D} (k : Pv v) (h : Q (.d (.bl (numB v))) S) : m_is_within K cs [v, .int 0, .int 3] E S Q := by
  unfold m_is_within b_is_within
  simp only [mk, st0, List.map_cons, List.map_nil, List.cons_append, List.nil_append, List.length_cons, List.length_nil, Nat.reduceSub, Nat.reduceAdd, List.replicate]
  have hi : ∀ (E : EK) (st : Ps), st.ρ[0]? = some (.d v) → Ev (xF (xP 1 (m_is_integer K cs) (xCons (xV 0) xNil))) E st (.bl (isInt v)) := fun E st hs => ev_od (eo_P (evA_cons (ev_V hs) evA_nil) rfl fun E' Q z => w_is_integer k z)
  cases hv : isInt v with
  | false =>
    rw [hv] at hi
    have e : numB v = false := by cases v <;> first | rfl | cases hv
    rw [e] at h
    exact sRet_eo (eo_u (ev_and (b := false) (hi _ _ rfl) fun z => nomatch z)) h
  | true =>
    rw [hv] at hi
    cases k with
    | int i => exact sRet_eo (eo_u (ev_and (b := decide (0 ≤ i) && decide (i ≤ 3)) (hi _ _ rfl) fun _ => ev_od (eo_ch (ev_V rfl) (ev_V rfl) (ev_V rfl) rfl fun _ => rfl))) h
    | _ => cases hv
theorem w_is_cell {v : D} (k : Pv v) (h : Q (.d (.bl (celB v))) S) : m_is_cell K cs [v] E S Q := by
  unfold m_is_cell b_is_cell
  simp only [mk, st0, List.map_cons, List.map_nil, List.cons_append, List.nil_append, List.length_cons, List.length_nil, Nat.reduceSub, Nat.reduceAdd, List.replicate]
  exact sRet_eo (eo_u (ev_or (ev_od (eo_P (ds := [v, .int 0, .int 3]) (evA_cons (ev_V rfl) (evA_cons ev_C (evA_cons (ev_od (eo_op ev_C ev_C rfl)) evA_nil))) rfl fun E' Q z => w_is_within k z)) fun _ => ev_od (eo_P (evA_cons (ev_V rfl) evA_nil) rfl fun E' Q z => w_is_word_any k z))) h
theorem w_qint {v : D} (k : Pv v) (h : Q (.d (.bl (numB v))) S) : m__law_qint K cs [v, .int 0, .int 3] E S Q := by
  unfold m__law_qint b__law_qint
  simp only [mk, st0, List.map_cons, List.map_nil, List.cons_append, List.nil_append, List.length_cons, List.length_nil, Nat.reduceSub, Nat.reduceAdd, List.replicate]
  have hi : ∀ (E : EK) (st : Ps), st.ρ[0]? = some (.d v) → Ev (xF (xB (isiG K) (xCons (xV 0) (xCons (xC (.ty "int")) xNil)))) E st (.bl (isInt v || isBl v)) := fun E st hs => ev_od (eo_b (evA_cons (ev_V hs) (evA_cons ev_C evA_nil)) fun J z => isiI k z)
  have hb : ∀ (E : EK) (st : Ps), st.ρ[0]? = some (.d v) → Ev (xNot (xF (xB (isiG K) (xCons (xV 0) (xCons (xC (.ty "bool")) xNil))))) E st (.bl (!isBl v)) := fun E st hs => ev_not (ev_od (eo_b (evA_cons (ev_V hs) (evA_cons ev_C evA_nil)) fun J z => isiB k z))
  have e : numB v = ((isInt v || isBl v) && (!isBl v && numB v)) := by cases v <;> rfl
  rw [e] at h
  refine sRet_eo (eo_u (ev_and (hi _ _ rfl) fun h1 => ev_and (hb _ _ rfl) fun hn => ?_)) h
  cases k with
  | int i => exact ev_od (eo_ch (ev_V rfl) (ev_V rfl) (ev_V rfl) rfl fun _ => rfl)
  | bl b => cases hn
  | _ => simp [isInt, isBl] at h1
/-! entries -/
def entB : D → Bool
  | .tup [a, .tup xs] => wB a && (decide ((1 : Int) ≤ xs.length) && decide ((xs.length : Int) ≤ 3)) && (xs.map celB).all id
  | _ => false
theorem pv_tup {xs : List D} (k : Pv (.tup xs)) : xs.length ≤ 1000 ∧ ∀ x ∈ xs, Pv x := by
  cases k with
  | tup _ a b => exact ⟨a, b⟩
theorem ev_lnT {xs : List D} {E : EK} {st : Ps} {f : Ex} (h : Ev f E st (.tup xs)) : Ev (xF (xB lenG (xCons f xNil))) E st (.int xs.length) := ev_od (eo_b1 h fun J z => z)
theorem ix2_0 {a b : D} : ixD (.tup [a, b]) (.int 0) = some (.d a) := rfl
theorem ix2_1 {a b : D} : ixD (.tup [a, b]) (.int 1) = some (.d b) := rfl
theorem entB_no {xs : List D} (h : xs.length ≠ 2) : entB (.tup xs) = false := by
  match xs, h with
  | [], _ => rfl
  | [_], _ => rfl
  | [_, _], h => exact absurd rfl h
  | _ :: _ :: _ :: _, _ => simp [entB]
def celsB (b : D) : Bool := match b with
  | .tup xs => (decide ((1 : Int) ≤ xs.length) && decide ((xs.length : Int) ≤ 3)) && (xs.map celB).all id
  | _ => false
theorem entB_2 (a b : D) : entB (.tup [a, b]) = (wB a && celsB b) := by
  cases b <;> simp [entB, celsB, Bool.and_assoc]
theorem bl_all (f : D → Bool) (ds : List D) {J : O → Prop} (z : J (.d (.bl ((ds.map f).all id)))) : allG [.lst ((ds.filter fun _ => true).map fun x => D.bl (f x))] J := by
  rw [List.filter_eq_self.mpr fun _ _ => rfl]
  show opt (blsD _) _
  rw [bls_map f ds]
  exact z
theorem w_is_entry {v : D} (k : Pv v) (h : Q (.d (.bl (entB v))) S) : m_is_entry K cs [v] E S Q := by
  unfold m_is_entry b_is_entry
  simp only [mk, st0, List.map_cons, List.map_nil, List.cons_append, List.nil_append, List.length_cons, List.length_nil, Nat.reduceSub, Nat.reduceAdd, List.replicate]
  have hT : ∀ (E : EK) (st : Ps), st.ρ[0]? = some (.d v) → Tv (xNotT (xT (xF (xB (isiG K) (xCons (xV 0) (xCons (xC (.ty "tuple")) xNil)))))) E st (!isTup v) := fun E st hs => tv_not (tv_ev (ev_od (eo_b (evA_cons (ev_V hs) (evA_cons ev_C evA_nil)) fun J z => isiT k z)))
  refine seq_go fun N1 h1 => ?_
  cases hs : isTup v with
  | false =>
    rw [hs] at hT
    have e : entB v = false := by cases v <;> first | rfl | cases hs
    rw [e] at h
    exact sIf_tv (tv_or (b := true) (hT _ _ rfl) fun z => nomatch z) (fun _ => sRet_eo (eo_u ev_C) h) fun z => nomatch z
  | true =>
    rw [hs] at hT
    obtain ⟨xs, rfl⟩ : ∃ xs, v = .tup xs := by cases v <;> first | exact ⟨_, rfl⟩ | cases hs
    obtain ⟨hl, px⟩ := pv_tup k
    by_cases h2 : xs.length = 2
    · obtain ⟨a, b, rfl⟩ : ∃ a b, xs = [a, b] := by
        match xs, h2 with
        | [a, b], _ => exact ⟨a, b, rfl⟩
      rw [entB_2] at h
      have pa := px a (by simp)
      have pb := px b (by simp)
      refine sIf_tv (tv_or (b := !wB a) (hT _ _ rfl) fun _ => tv_or (a := false) (tv_o (eo_op (ev_lnT (ev_V rfl)) ev_C (by rw [neI]; rfl))) fun _ => tv_not (tv_ev (ev_od (eo_P (ds := [a]) (evA_cons (ev_od (eo_op (ev_V rfl) ev_C ix2_0)) evA_nil) rfl fun E' Q z => w_is_word_any pa z)))) (fun z => ?_) fun z => ?_
      · have z : (!wB a) = true := z
        rw [Bool.not_eq_true'] at z
        rw [z] at h
        exact sRet_eo (eo_u ev_C) h
      · have z : (!wB a) = false := z
        rw [Bool.not_eq_false'] at z
        rw [z, Bool.true_and] at h
        refine h1 _ (seq_go fun N2 h2 => sSet_eo (eo_op (ev_V rfl) ev_C ix2_1) (h2 _ ?_))
        have hB : ∀ (E : EK) (st : Ps), st.ρ[1]? = some (.d b) → Ev (xF (xB (isiG K) (xCons (xV 1) (xCons (xC (.ty "tuple")) xNil)))) E st (.bl (isTup b)) := fun E st hs => ev_od (eo_b (evA_cons (ev_V hs) (evA_cons ev_C evA_nil)) fun J z => isiT pb z)
        cases hb : isTup b with
        | false =>
          rw [hb] at hB
          have e : celsB b = false := by cases b <;> first | rfl | cases hb
          rw [e] at h
          exact sRet_eo (eo_u (ev_and (b := false) (hB _ _ rfl) fun z => nomatch z)) h
        | true =>
          rw [hb] at hB
          obtain ⟨ys, rfl⟩ : ∃ ys, b = .tup ys := by cases b <;> first | exact ⟨_, rfl⟩ | cases hb
          obtain ⟨yl, py⟩ := pv_tup pb
          refine sRet_eo (eo_u (ev_and (b := celsB (.tup ys)) (hB _ _ rfl) fun _ => ev_and (ev_od (eo_ch ev_C (ev_lnT (ev_V rfl)) ev_C rfl fun _ => rfl)) fun _ => ev_od (eo_b1 (ev_o (eo_lc (fun _ => true) (fun d => .bl (celB d)) rfl (ev_V rfl) rfl (by omega) (fun _ _ => tv_yes) fun x hx _ => ?_)) fun J z => ?_))) h
          · exact ev_od (eo_P (evA_cons (ev_V rfl) evA_nil) rfl fun E' Q z => w_is_cell (py x hx) z)
          · exact bl_all celB ys z
    · rw [entB_no h2] at h
      refine sIf_tv (tv_or (b := true || true) (hT _ _ rfl) fun _ => tv_or (a := true) (b := true) (tv_o (eo_op (ev_lnT (ev_V rfl)) ev_C (by rw [neI, decide_eq_false (by omega)]; rfl))) fun z => nomatch z) (fun _ => sRet_eo (eo_u ev_C) h) fun z => nomatch z
end Q
/-! entries by the law's own look; the numbers of the parameters -/
namespace Q
open PySem L2 PySem.Spec PyProof.Rows
variable {K : PySem.W.Frag} {cs : Cs} {E : EF} {S : List Cell} {Q : O → List Cell → Prop}
theorem nil_cel (xs : List D) : (((xs.filter fun c => !numB c && !wB c).map id).isEmpty) = (xs.map celB).all id := by
  rw [List.map_id, Bool.eq_iff_iff, List.isEmpty_iff, List.filter_eq_nil_iff, List.all_map, List.all_eq_true]
  refine ⟨fun h x hx => ?_, fun h x hx => ?_⟩
  · have := h x hx
    show celB x = true
    unfold celB
    cases hn : numB x <;> cases hw : wB x <;> simp [hn, hw] at this ⊢
  · have := h x hx
    have this : celB x = true := this
    unfold celB at this
    cases hn : numB x <;> cases hw : wB x <;> simp [hn, hw] at this ⊢
theorem w_lis_entry {v : D} (k : Pv v) (h : Q (.d (.bl (entB v))) S) : m__law_is_entry K cs [v] E S Q := by
  unfold m__law_is_entry b__law_is_entry
  simp only [mk, st0, List.map_cons, List.map_nil, List.cons_append, List.nil_append, List.length_cons, List.length_nil, Nat.reduceSub, Nat.reduceAdd, List.replicate]
  have hT : ∀ (E : EK) (st : Ps), st.ρ[0]? = some (.d v) → Tv (xNotT (xT (xF (xB (isiG K) (xCons (xV 0) (xCons (xC (.ty "tuple")) xNil)))))) E st (!isTup v) := fun E st hs => tv_not (tv_ev (ev_od (eo_b (evA_cons (ev_V hs) (evA_cons ev_C evA_nil)) fun J z => isiT k z)))
  refine seq_go fun N1 h1 => ?_
  cases hs : isTup v with
  | false =>
    rw [hs] at hT
    have e : entB v = false := by cases v <;> first | rfl | cases hs
    rw [e] at h
    exact sIf_tv (tv_or (b := true) (hT _ _ rfl) fun z => nomatch z) (fun _ => sRet_eo (eo_u ev_C) h) fun z => nomatch z
  | true =>
    rw [hs] at hT
    obtain ⟨xs, rfl⟩ : ∃ xs, v = .tup xs := by cases v <;> first | exact ⟨_, rfl⟩ | cases hs
    obtain ⟨hl, px⟩ := pv_tup k
    by_cases h2 : xs.length = 2
    · obtain ⟨a, b, rfl⟩ : ∃ a b, xs = [a, b] := by
        match xs, h2 with
        | [a, b], _ => exact ⟨a, b, rfl⟩
      rw [entB_2] at h
      have pa := px a (by simp)
      have pb := px b (by simp)
      have i1 : ∀ (E : EK) (st : Ps), st.ρ[0]? = some (.d (.tup [a, b])) → Ev (xF (xOp ixD (xV 0) (xC (.int 1)))) E st b := fun E st hs => ev_od (eo_op (ev_V hs) ev_C ix2_1)
      refine sIf_tv (tv_or (b := !wB a) (hT _ _ rfl) fun _ => tv_or (a := false) (tv_o (eo_op (ev_lnT (ev_V rfl)) ev_C (by rw [neI]; rfl))) fun _ => tv_not (tv_ev (ev_od (eo_P (ds := [a]) (evA_cons (ev_od (eo_op (ev_V rfl) ev_C ix2_0)) evA_nil) rfl fun E' Q z => w_lis_word_any pa z)))) (fun z => ?_) fun z => ?_
      · have z : (!wB a) = true := z
        rw [Bool.not_eq_true'] at z
        rw [z] at h
        exact sRet_eo (eo_u ev_C) h
      · have z : (!wB a) = false := z
        rw [Bool.not_eq_false'] at z
        rw [z, Bool.true_and] at h
        refine h1 _ (seq_go fun N2 k2 => ?_)
        have hB : ∀ (E : EK) (st : Ps), st.ρ[0]? = some (.d (.tup [a, b])) → Tv (xNotT (xT (xF (xB (isiG K) (xCons (xF (xOp ixD (xV 0) (xC (.int 1)))) (xCons (xC (.ty "tuple")) xNil)))))) E st (!isTup b) := fun E st hs => tv_not (tv_ev (ev_od (eo_b (evA_cons (i1 _ _ hs) (evA_cons ev_C evA_nil)) fun J z => isiT pb z)))
        cases hb : isTup b with
        | false =>
          rw [hb] at hB
          have e : celsB b = false := by cases b <;> first | rfl | cases hb
          rw [e] at h
          exact sIf_tv (tv_or (b := true) (hB _ _ rfl) fun z => nomatch z) (fun _ => sRet_eo (eo_u ev_C) h) fun z => nomatch z
        | true =>
          rw [hb] at hB
          obtain ⟨ys, rfl⟩ : ∃ ys, b = .tup ys := by cases b <;> first | exact ⟨_, rfl⟩ | cases hb
          obtain ⟨yl, py⟩ := pv_tup pb
          refine sIf_tv (tv_or (b := !(decide ((1 : Int) ≤ ys.length) && decide ((ys.length : Int) ≤ 3))) (hB _ _ rfl) fun _ => tv_not (tv_o (eo_ch ev_C (ev_lnT (i1 _ _ rfl)) ev_C rfl fun _ => rfl))) (fun z => ?_) fun z => k2 _ ?_
          · have z : (!(decide ((1 : Int) ≤ ys.length) && decide ((ys.length : Int) ≤ 3))) = true := z
            rw [Bool.not_eq_true'] at z
            have e : celsB (.tup ys) = false := by
              show ((decide ((1 : Int) ≤ ys.length) && decide ((ys.length : Int) ≤ 3)) && _) = false
              rw [z]
              rfl
            rw [e] at h
            exact sRet_eo (eo_u ev_C) h
          · have z : (!(decide ((1 : Int) ≤ ys.length) && decide ((ys.length : Int) ≤ 3))) = false := z
            rw [Bool.not_eq_false'] at z
            have e : celsB (.tup ys) = ((ys.filter fun c => !numB c && !wB c).map id).isEmpty := by
              rw [nil_cel]
              show ((decide ((1 : Int) ≤ ys.length) && decide ((ys.length : Int) ≤ 3)) && _) = _
              rw [z]
              rfl
            rw [e] at h
            refine sRet_eo (eo_u (ev_od (eo_op (ev_o (eo_lc (fun c => !numB c && !wB c) id rfl (i1 _ _ rfl) rfl (by omega) (fun x hx => ?_) fun x hx _ => ev_V rfl)) (ev_o (eo_lst evA_nil (Nat.zero_le _))) rfl))) h
            exact tv_and (tv_not (tv_ev (ev_od (eo_P (ds := [x, .int 0, .int 3]) (evA_cons (ev_V rfl) (evA_cons ev_C (evA_cons ev_C evA_nil))) rfl fun E' Q z => w_qint (py x hx) z)))) fun _ => tv_not (tv_ev (ev_od (eo_P (ds := [x]) (evA_cons (ev_V rfl) evA_nil) rfl fun E' Q z => w_lis_word_any (py x hx) z)))
    · rw [entB_no h2] at h
      refine sIf_tv (tv_or (b := true || true) (hT _ _ rfl) fun _ => tv_or (a := true) (b := true) (tv_o (eo_op (ev_lnT (ev_V rfl)) ev_C (by rw [neI, decide_eq_false (by omega)]; rfl))) fun z => nomatch z) (fun _ => sRet_eo (eo_u ev_C) h) fun z => nomatch z
/-! the numbers -/
def cellsD : D → List D
  | .tup [_, .tup xs] => xs
  | _ => []
def intD : D → Option Int
  | .int i => some i
  | _ => none
def numsE (e : D) : List Int := (cellsD e).filterMap intD
def numsL (xs : List D) : List Int := xs.flatMap numsE
/-- the numbers of the parameters, ascending -/
def prm (xs : List D) : List Int := [(0 : Int), 1, 2, 3].filter fun i => decide (i ∈ numsL xs)
theorem ent_cells {e : D} (h : entB e = true) : ∃ a xs, e = .tup [.str a, .tup xs] ∧ wordB a = true ∧ 1 ≤ xs.length ∧ xs.length ≤ 3 ∧ ∀ c ∈ xs, celB c = true := by
  obtain ⟨a, b, rfl⟩ : ∃ a b, e = .tup [a, b] := by
    unfold entB at h
    split at h
    · exact ⟨_, _, rfl⟩
    · cases h
  rw [entB_2, Bool.and_eq_true] at h
  obtain ⟨h1, h2⟩ := h
  cases a with
  | str s =>
    cases b with
    | tup xs =>
      have h2 : ((decide ((1 : Int) ≤ xs.length) && decide ((xs.length : Int) ≤ 3)) && (xs.map celB).all id) = true := h2
      rw [Bool.and_eq_true, Bool.and_eq_true, decide_eq_true_eq, decide_eq_true_eq, List.all_map, List.all_eq_true] at h2
      exact ⟨s, xs, rfl, h1, by omega, by omega, h2.2⟩
    | _ => cases h2
  | _ => cases h1
theorem num_cel {c : D} {i : Int} (h : celB c = true) (e : intD c = some i) : 0 ≤ i ∧ i ≤ 3 := by
  cases c with
  | int j =>
    cases e
    have h : ((decide (0 ≤ i) && decide (i ≤ 3)) || false) = true := h
    rw [Bool.or_false, Bool.and_eq_true, decide_eq_true_eq, decide_eq_true_eq] at h
    exact h
  | _ => cases e
theorem nums_lim {xs : List D} (h : ∀ e ∈ xs, entB e = true) {i : Int} (hi : i ∈ numsL xs) : 0 ≤ i ∧ i ≤ 3 := by
  obtain ⟨e, he, hi⟩ := List.mem_flatMap.mp hi
  obtain ⟨a, ys, rfl, _, _, _, hc⟩ := ent_cells (h e he)
  obtain ⟨c, hc1, hc2⟩ := List.mem_filterMap.mp hi
  exact num_cel (hc c hc1) hc2
theorem mem_prm {xs : List D} (h : ∀ e ∈ xs, entB e = true) (i : Int) : i ∈ prm xs ↔ i ∈ numsL xs := by
  unfold prm
  rw [List.mem_filter, decide_eq_true_eq]
  refine ⟨fun z => z.2, fun z => ⟨?_, z⟩⟩
  obtain ⟨h1, h2⟩ := nums_lim h z
  simp only [List.mem_cons, List.not_mem_nil, or_false]
  omega
theorem prm_sorted (xs : List D) : (prm xs).Pairwise (· < ·) := by
  unfold prm
  refine List.Pairwise.filter _ ?_
  decide
theorem sorted_one : ∀ {l m : List Int}, l.Pairwise (· < ·) → m.Pairwise (· < ·) → (∀ k, k ∈ l ↔ k ∈ m) → l = m
  | [], [], _, _, _ => rfl
  | [], y :: m, _, _, h => absurd ((h y).mpr List.mem_cons_self) List.not_mem_nil
  | x :: l, [], _, _, h => absurd ((h x).mp List.mem_cons_self) List.not_mem_nil
  | x :: l, y :: m, hl, hm, h => by
    obtain ⟨a1, a2⟩ := List.pairwise_cons.mp hl
    obtain ⟨b1, b2⟩ := List.pairwise_cons.mp hm
    have e : x = y := by
      rcases List.mem_cons.mp ((h x).mp List.mem_cons_self) with e | e
      · exact e
      · rcases List.mem_cons.mp ((h y).mpr List.mem_cons_self) with f | f
        · exact f.symm
        · have := a1 y f
          have := b1 x e
          omega
    subst e
    congr 1
    refine sorted_one a2 b2 fun k => ⟨fun hk => ?_, fun hk => ?_⟩
    · rcases List.mem_cons.mp ((h k).mp (List.mem_cons_of_mem _ hk)) with z | z
      · have := a1 k hk
        omega
      · exact z
    · rcases List.mem_cons.mp ((h k).mpr (List.mem_cons_of_mem _ hk)) with z | z
      · have := b1 k hk
        omega
      · exact z
theorem prm_perm {xs ys : List D} (p : xs.Perm ys) : prm xs = prm ys := by
  unfold prm
  refine congrArg (fun f => List.filter f _) ?_
  funext i
  have : i ∈ numsL xs ↔ i ∈ numsL ys := by
    unfold numsL
    rw [List.mem_flatMap, List.mem_flatMap]
    exact ⟨fun ⟨a, b, c⟩ => ⟨a, p.mem_iff.mp b, c⟩, fun ⟨a, b, c⟩ => ⟨a, p.mem_iff.mpr b, c⟩⟩
  exact decide_eq_decide.mpr this
end Q
/-! the numbers of the parameters, by the program and by the law -/
namespace Q
open PySem L2 PySem.Spec PyProof.Rows
variable {K : PySem.W.Frag} {cs : Cs} {E : EF} {S : List Cell} {Q : O → List Cell → Prop}
def EntL (xs : List D) : Prop := ∀ e ∈ xs, entB e = true
theorem cel_pv {c : D} (h : celB c = true) : Pv c := by
  cases c with
  | int i => exact .int i
  | str s =>
    have h : (false || wordB s) = true := h
    rw [Bool.false_or] at h
    have := (word_len h).2
    exact .str s (by omega)
  | _ => cases h
theorem cel_bl {c : D} (h : celB c = true) : isBl c = false := by
  cases c with
  | bl b => cases h
  | _ => rfl
theorem nums_cons (e : D) (xs : List D) : numsL (e :: xs) = numsE e ++ numsL xs := List.flatMap_cons
theorem numsE_tup (a : D) (ys : List D) : numsE (.tup [a, .tup ys]) = ys.filterMap intD := rfl
theorem fm_le {ys : List D} : (ys.filterMap intD).length ≤ ys.length := List.length_filterMap_le _ _
theorem nums_len : ∀ {xs : List D}, EntL xs → (numsL xs).length ≤ 3 * xs.length
  | [], _ => Nat.zero_le _
  | e :: xs, h => by
    obtain ⟨a, ys, rfl, _, _, l3, _⟩ := ent_cells (h e List.mem_cons_self)
    have := nums_len (xs := xs) fun y hy => h y (List.mem_cons_of_mem _ hy)
    have := fm_le (ys := ys)
    rw [nums_cons, numsE_tup, List.length_append, List.length_cons]
    omega
section
variable {st : Ps} {k : List Int → Ps → Prop}
theorem scIn_go (hv : st.ρ[1]? = some .un) : ∀ (es : List D) (acc : List Int) (st' : Ps), st'.wp [1] = st → (∀ c ∈ es, celB c = true) → acc.length + es.length ≤ 60 → k (acc ++ es.filterMap intD) st → scIn (gN 1) (xT (xF (xP 1 (m_is_integer K cs) (xCons (xV 1) xNil)))) (xV 1) [1] k es acc st'
  | [], acc, st', e, _, _, q => by
    unfold scIn
    rw [e]
    simpa using q
  | c :: es, acc, st', e, hc, hl, q => by
    rw [List.length_cons] at hl
    have h1 := hc c List.mem_cons_self
    have hs : ({ st with ρ := st.ρ.set 1 (.d c) } : Ps).ρ[1]? = some (.d c) := by
      show (st.ρ.set 1 (.d c))[1]? = _
      obtain ⟨h, _⟩ := List.getElem?_eq_some_iff.mp hv
      rw [List.getElem?_set_self h]
    unfold scIn
    rw [e]
    refine tv_ev (ev_od (eo_P (ds := [c]) (evA_cons (ev_V hs) evA_nil) rfl fun E' Q z => w_is_integer (cel_pv h1) z)) _ ?_
    cases hi : isInt c with
    | true =>
      rw [if_pos rfl]
      obtain ⟨i, rfl⟩ : ∃ i, c = .int i := by cases c <;> first | exact ⟨_, rfl⟩ | cases hi
      refine ev_V hs _ ⟨i, rfl, by omega, scIn_go hv es _ _ (wp_set hv) (fun x hx => hc x (List.mem_cons_of_mem _ hx)) (by rw [List.length_append, List.length_singleton]; omega) ?_⟩
      rw [List.filterMap_cons] at q
      rw [List.append_assoc]
      exact q
    | false =>
      rw [if_neg Bool.false_ne_true]
      refine scIn_go hv es _ _ (wp_set hv) (fun x hx => hc x (List.mem_cons_of_mem _ hx)) (by omega) ?_
      have e0 : intD c = none := by cases c <;> first | rfl | cases hi
      rw [List.filterMap_cons, e0] at q
      exact q
end
theorem scOut_go {o0 : O} {q0 : List Int → Ps → Prop} : ∀ (ds : List D) (acc : List Int) (st' : Ps), st'.wp [2, 3, 1] = ⟨[o0, .un, .un, .un], S, false, false⟩ → EntL ds → acc.length + 3 * ds.length ≤ 60 → q0 (acc ++ numsL ds) ⟨[o0, .un, .un, .un], S, false, false⟩ →
    scOut (gT 2 (gsC (gN 2) (gsC (gN 3) gsN))) (iA (xV 3)) (gN 1) (xT (xF (xP 1 (m_is_integer K cs) (xCons (xV 1) xNil)))) (xV 1) [2, 3, 1] [1] q0 ds acc st'
  | [], acc, st', e, _, _, q => by
    unfold scOut
    rw [e]
    simpa [numsL] using q
  | d :: ds, acc, st', e, hd, hl, q => by
    rw [List.length_cons] at hl
    obtain ⟨a, ys, rfl, _, _, l3, hc⟩ := ent_cells (hd d List.mem_cons_self)
    have lf := fm_le (ys := ys)
    unfold scOut
    rw [e]
    refine ⟨rfl, rfl, ev_V (i := 3) (d := .tup ys) rfl _ ?_⟩
    show scIn _ _ _ _ _ ys acc _
    refine scIn_go (st := ⟨[o0, .un, .d (.str a), .d (.tup ys)], S, false, false⟩) rfl ys acc _ rfl hc (by omega) ?_
    refine scOut_go ds _ _ rfl (fun x hx => hd x (List.mem_cons_of_mem _ hx)) (by rw [List.length_append]; omega) ?_
    rw [nums_cons, numsE_tup] at q
    rw [List.append_assoc]
    exact q
theorem sRetU_go {f : Ex} {E : EK} {K : En} {st : Ps} (h : f E st fun r st' => opt (frz st' r) fun q => K.rt (.d q.1) q.2) : sRet (xU f) E K st := h
theorem prm_of {xs : List D} (h : EntL xs) {ys : List Int} (s : ys.Pairwise (· < ·)) (m : ∀ k, k ∈ ys ↔ k ∈ numsL xs) : ys = prm xs := sorted_one s (prm_sorted xs) fun k => (m k).trans (mem_prm h k).symm
theorem w_parameters_in {xs : List D} (hx : EntL xs) (hl : xs.length ≤ 15) (h : Q (.d (.lst ((prm xs).map D.int))) S) : m_parameters_in K cs [.lst xs] E S Q := by
  unfold m_parameters_in b_parameters_in
  simp only [mk, st0, List.map_cons, List.map_nil, List.cons_append, List.nil_append, List.length_cons, List.length_nil, Nat.reduceSub, Nat.reduceAdd, List.replicate]
  refine sRetU_go (xF_go ?_)
  unfold xSortSc2 iA
  refine ev_V (d := .lst xs) rfl _ ?_
  show scOut _ _ _ _ _ _ _ _ xs [] _
  refine scOut_go xs [] _ rfl hx (by rw [List.length_nil]; omega) ⟨?_, fun ys s m => ?_⟩
  · have := nums_len hx
    rw [List.nil_append]
    omega
  · rw [List.nil_append] at m
    rw [prm_of hx s m]
    exact h
theorem ints_ok : ∀ ns : List Int, intsD (ns.map D.int) = some ns
  | [] => rfl
  | n :: ns => by
    rw [List.map_cons, intsD, ints_ok ns]
theorem cel_ints : ∀ {ys : List D}, (∀ c ∈ ys, celB c = true) → (ys.filter fun c => isInt c || isBl c).map id = (ys.filterMap intD).map D.int
  | [], _ => rfl
  | c :: ys, h => by
    have ih := cel_ints (ys := ys) fun x hx => h x (List.mem_cons_of_mem _ hx)
    have hb := cel_bl (h c List.mem_cons_self)
    cases c with
    | int i =>
      rw [List.filter_cons_of_pos rfl, List.map_cons, ih]
      rfl
    | bl b => cases hb
    | str s =>
      rw [List.filter_cons_of_neg (by simp [isInt, isBl]), ih]
      rfl
    | _ => cases h _ List.mem_cons_self
theorem w_vused {xs : List D} (hx : EntL xs) (hl : xs.length ≤ 15) (h : Q (.d (.lst ((prm xs).map D.int))) S) : m__law_vused K cs [.lst xs] E S Q := by
  have nl := nums_len hx
  unfold m__law_vused b__law_vused
  simp only [mk, st0, List.map_cons, List.map_nil, List.cons_append, List.nil_append, List.length_cons, List.length_nil, Nat.reduceSub, Nat.reduceAdd, List.replicate]
  refine seq_go fun N1 h1 => ?_
  simp only [sSetO]
  refine eo_lst evA_nil (Nat.zero_le _) _ (h1 _ (seq_go fun N2 h2 => ?_))
  clear h1
  simp only [sFor, iA]
  refine ev_V (d := .lst xs) rfl _ ?_
  show forW _ _ _ _ xs _
  refine forW_by (fun ds st => ∃ (ns : List Int) (o2 o3 : O), ns ++ numsL ds = numsL xs ∧ EntL ds ∧ st = ⟨[.d (.lst xs), .lst (ns.map D.int), o2, o3, .un], S, false, false⟩) ?_ ?_ _ _ ⟨[], .un, .un, rfl, hx, rfl⟩
  · rintro st ⟨ns, o2, o3, e, _, rfl⟩
    have e : ns ++ [] = numsL xs := e
    rw [List.append_nil] at e
    subst e
    refine h2 _ ?_
    refine sRetU_go (xF_go ?_)
    unfold xSortSet
    refine xV_lst rfl ?_
    show opt (intsD ((numsL xs).map D.int)) _
    rw [ints_ok]
    refine ⟨by omega, fun ys s m => ?_⟩
    rw [prm_of hx s m]
    exact h
  · rintro d ds st ⟨ns, o2, o3, e, hd, rfl⟩ N hN
    obtain ⟨a, ys, rfl, _, _, l3, hc⟩ := ent_cells (hd d List.mem_cons_self)
    refine ⟨rfl, rfl, ⟨⟨_, rfl⟩, ?_⟩⟩
    rw [nums_cons, numsE_tup] at e
    have en := congrArg List.length e
    rw [List.length_append, List.length_append] at en
    refine ev_o (eo_lc (E := fun C fs st => E C fs st.S) (st := ⟨[.d (.lst xs), .lst (ns.map D.int), .d (.str a), .d (.tup ys), .un], S, false, false⟩) (v := 4) (ds := ys) (fun c => isInt c || isBl c) id rfl (ev_V (i := 3) (d := .tup ys) rfl) rfl (by omega) (fun x hx => tv_ev (ev_od (eo_b (evA_cons (ev_V rfl) (evA_cons ev_C evA_nil)) fun J z => isiI (cel_pv (hc x hx)) z))) fun x hx _ => ev_V rfl) _ ?_
    rw [cel_ints hc]
    refine ⟨by rw [sizeLine_eq, List.length_map, List.length_map]; omega, hN _ ⟨ns ++ ys.filterMap intD, .d (.str a), .d (.tup ys), ?_, fun x hx => hd x (List.mem_cons_of_mem _ hx), ?_⟩⟩
    · rw [List.append_assoc]
      exact e
    · rw [List.map_append]
      rfl
end Q
/-! == of clean data -/
namespace Q
open PySem L2 PySem.Spec PyProof.Rows
/-- none, whole numbers, texts, lists and tuples of such, not too deep -/
def clean : Nat → D → Bool
  | _, .non => true
  | _, .int _ => true
  | _, .str s => PyData.strOk s
  | n + 1, .lst xs => xs.all (clean n)
  | n + 1, .tup xs => xs.all (clean n)
  | _, _ => false
mutual
def plI : PyData → Bool
  | .none => true
  | .int _ => true
  | .str _ => true
  | .list xs => plIs xs
  | .tuple xs => plIs xs
  | _ => false
def plIs : List PyData → Bool
  | [] => true
  | x :: xs => plI x && plIs xs
end
mutual
theorem eqv_plI : ∀ (p q : PyData), plI p = true → plI q = true → PyData.eqv p q = true → p = q
  | .none, q, h, g, e => by cases q <;> simp [PyData.eqv, plI] at *
  | .int x, q, h, g, e => by
    cases q <;> simp [PyData.eqv, plI] at *
    exact e
  | .str x, q, h, g, e => by
    cases q <;> simp [PyData.eqv, plI] at *
    exact e
  | .list xs, q, h, g, e => by
    cases q <;> simp [PyData.eqv, plI] at *
    exact eqv_plIs xs _ h g e
  | .tuple xs, q, h, g, e => by
    cases q <;> simp [PyData.eqv, plI] at *
    exact eqv_plIs xs _ h g e
  | .bool _, _, h, _, _ => by simp [plI] at h
  | .dict _, _, h, _, _ => by simp [plI] at h
theorem eqv_plIs : ∀ (ps qs : List PyData), plIs ps = true → plIs qs = true → PyData.eqvAll ps qs = true → ps = qs
  | [], [], _, _, _ => rfl
  | [], _ :: _, _, _, e => by simp [PyData.eqvAll] at e
  | _ :: _, [], _, _, e => by simp [PyData.eqvAll] at e
  | p :: ps, q :: qs, h, g, e => by
    simp only [plIs, PyData.eqvAll, Bool.and_eq_true] at h g e
    rw [eqv_plI p q h.1 g.1 e.1, eqv_plIs ps qs h.2 g.2 e.2]
end
mutual
def ofP : PyData → D
  | .none => .non
  | .int i => .int i
  | .str s => .str s
  | .list xs => .lst (ofPs xs)
  | .tuple xs => .tup (ofPs xs)
  | _ => .non
def ofPs : List PyData → List D
  | [] => []
  | x :: xs => ofP x :: ofPs xs
end
def CleanP (n : Nat) (d : D) (p : PyData) : Prop := toP d = some p ∧ plI p = true ∧ p.canLay0 = true ∧ p.depth ≤ n ∧ ofP p = d
theorem toPs_clean {n : Nat} : ∀ {xs : List D}, (∀ x ∈ xs, ∃ p, CleanP n x p) → ∃ ps, toPs xs = some ps ∧ plIs ps = true ∧ PyData.canLayAll0 ps = true ∧ PyData.depthAll ps ≤ n ∧ ofPs ps = xs
  | [], _ => ⟨[], rfl, rfl, rfl, Nat.zero_le _, rfl⟩
  | x :: xs, h => by
    obtain ⟨p, h1, h2, h3, h4, h5⟩ := h x List.mem_cons_self
    obtain ⟨ps, g1, g2, g3, g4, g5⟩ := toPs_clean (xs := xs) fun y hy => h y (List.mem_cons_of_mem _ hy)
    refine ⟨p :: ps, by rw [toPs, h1, g1], by rw [plIs, h2, g2]; rfl, by rw [PyData.canLayAll0, h3, g3]; rfl, ?_, by rw [ofPs, h5, g5]⟩
    rw [PyData.depthAll]
    exact Nat.max_le.mpr ⟨h4, g4⟩
theorem toP_clean : ∀ (n : Nat) (d : D), clean n d = true → ∃ p, CleanP n d p
  | n, .non, _ => ⟨.none, rfl, rfl, rfl, by rw [PyData.depth]; exact Nat.zero_le _, rfl⟩
  | n, .int i, _ => ⟨.int i, rfl, rfl, rfl, by rw [PyData.depth]; exact Nat.zero_le _, rfl⟩
  | n, .str s, h => ⟨.str s, rfl, rfl, by simpa [clean, PyData.canLay0] using h, by rw [PyData.depth]; exact Nat.zero_le _, rfl⟩
  | n + 1, .lst xs, h => by
    have h : xs.all (clean n) = true := h
    rw [List.all_eq_true] at h
    obtain ⟨ps, g1, g2, g3, g4, g5⟩ := toPs_clean fun x hx => toP_clean n x (h x hx)
    exact ⟨.list ps, by rw [toP, g1], by rw [plI, g2], by rw [PyData.canLay0, g3], by rw [PyData.depth]; omega, by rw [ofP, g5]⟩
  | n + 1, .tup xs, h => by
    have h : xs.all (clean n) = true := h
    rw [List.all_eq_true] at h
    obtain ⟨ps, g1, g2, g3, g4, g5⟩ := toPs_clean fun x hx => toP_clean n x (h x hx)
    exact ⟨.tuple ps, by rw [toP, g1], by rw [plI, g2], by rw [PyData.canLay0, g3], by rw [PyData.depth]; omega, by rw [ofP, g5]⟩
  | 0, .lst xs, h => by simp [clean] at h
  | 0, .tup xs, h => by simp [clean] at h
  | n, .bl b, h => by cases n <;> simp [clean] at h
  | n, .byt b, h => by cases n <;> simp [clean] at h
  | n, .ty b, h => by cases n <;> simp [clean] at h
  | n, .dK b, h => by cases n <;> simp [clean] at h
  | n, .dT b, h => by cases n <;> simp [clean] at h
  | n, .ins a b, h => by cases n <;> simp [clean] at h
  | n, .exc a b c d, h => by cases n <;> simp [clean] at h
  | n, .cell b, h => by cases n <;> simp [clean] at h
  | n, .cls b, h => by cases n <;> simp [clean] at h
  | n, .scr b, h => by cases n <;> simp [clean] at h
  | n, .rows b, h => by cases n <;> simp [clean] at h
theorem eqP_clean {n : Nat} (hn : n ≤ 60) {a b : D} (ha : clean n a = true) (hb : clean n b = true) : ∃ x, eqP a b = some x ∧ (x = true ↔ a = b) := by
  obtain ⟨p, p1, p2, p3, p4, p5⟩ := toP_clean n a ha
  obtain ⟨q, q1, q2, q3, q4, q5⟩ := toP_clean n b hb
  have sp : SeqAt.shaped p = true := by unfold SeqAt.shaped; rw [p3, Bool.true_and, decide_eq_true_eq]; omega
  have sq : SeqAt.shaped q = true := by unfold SeqAt.shaped; rw [q3, Bool.true_and, decide_eq_true_eq]; omega
  refine ⟨PyData.eqv p q, ?_, fun h => ?_, fun h => ?_⟩
  · unfold eqP
    rw [p1, q1]
    simp only [sp, sq, Bool.and_self, if_true]
  · rw [← p5, ← q5, eqv_plI p q p2 q2 h]
  · subst h
    rw [p1] at q1
    cases q1
    exact SeqAt.eqv_refl _ p3
theorem eqG_clean {n : Nat} (hn : n ≤ 60) {a b : D} (ha : clean n a = true) (hb : clean n b = true) : ∃ x, eqG a b = some (.d (.bl x)) ∧ (x = true ↔ a = b) := by
  obtain ⟨x, e, h⟩ := eqP_clean hn ha hb
  exact ⟨x, by unfold eqG; rw [e], h⟩
theorem neG_clean {n : Nat} (hn : n ≤ 60) {a b : D} (ha : clean n a = true) (hb : clean n b = true) : ∃ x, neG a b = some (.d (.bl x)) ∧ (x = false ↔ a = b) := by
  obtain ⟨x, e, h⟩ := eqP_clean hn ha hb
  refine ⟨!x, by unfold neG; rw [e], ?_⟩
  rw [Bool.not_eq_false']
  exact h
theorem neG_self {n : Nat} (hn : n ≤ 60) {a : D} (ha : clean n a = true) : neG a a = some (.d (.bl false)) := by
  obtain ⟨x, e, h⟩ := neG_clean hn ha ha
  rw [e, h.mpr rfl]
theorem clean_ints (ns : List Int) : clean 1 (.lst (ns.map D.int)) = true := by
  show (ns.map D.int).all (clean 0) = true
  rw [List.all_map, List.all_eq_true]
  exact fun i _ => rfl
theorem cel_clean {c : D} (n : Nat) (h : celB c = true) : clean n c = true := by
  cases c with
  | int i => cases n <;> rfl
  | str s =>
    have h : (false || wordB s) = true := h
    rw [Bool.false_or] at h
    have := word_ok h
    cases n <;> exact this
  | _ => cases h
theorem ent_clean {e : D} (h : entB e = true) : clean 2 e = true := by
  obtain ⟨a, ys, rfl, w, _, _, hc⟩ := ent_cells h
  show [D.str a, D.tup ys].all (clean 1) = true
  rw [List.all_cons, List.all_cons, List.all_nil, Bool.and_true, Bool.and_eq_true]
  refine ⟨word_ok w, ?_⟩
  show ys.all (clean 0) = true
  rw [List.all_eq_true]
  exact fun c hc' => cel_clean 0 (hc c hc')
theorem ents_cleanL {xs : List D} (h : EntL xs) : clean 3 (.lst xs) = true := by
  show xs.all (clean 2) = true
  rw [List.all_eq_true]
  exact fun e he => ent_clean (h e he)
theorem ents_cleanT {xs : List D} (h : EntL xs) : clean 3 (.tup xs) = true := by
  show xs.all (clean 2) = true
  rw [List.all_eq_true]
  exact fun e he => ent_clean (h e he)
end Q
/-! a template of any lists: made, or refused, and why -/
namespace Q
open PySem L2 PySem.Spec PyProof.Rows
def sq : D → List D
  | .lst xs => xs
  | .tup xs => xs
  | _ => []
def rngI (n : Nat) : List Int := (List.range n).map fun (i : Nat) => (0 : Int) + (i : Int)
theorem rng_ints (n : Nat) : rngD 0 n = (rngI n).map D.int := by
  unfold rngD rngI
  rw [List.map_map]
  rfl
def errT (p t : D) : Option D := if (isLT p && isLT t) = false then some .non else match (sq p ++ sq t).findIdx? (fun e => !entB e) with
  | some k => some (.int k)
  | none => if prm (sq p ++ sq t) = rngI (prm (sq p ++ sq t)).length then none else some .non
def tmF (p t : D) : List (Str × D) := [("own_put", .tup (sq p)), ("own_taken", .tup (sq t)), ("many", .int ((prm (sq p ++ sq t)).length : Nat))]
theorem tf01 : (Str.ofString "own_put" = Str.ofString "own_taken") = False := eq_false (by decide +kernel)
theorem tf02 : (Str.ofString "own_put" = Str.ofString "many") = False := eq_false (by decide +kernel)
theorem tf12 : (Str.ofString "own_taken" = Str.ofString "many") = False := eq_false (by decide +kernel)
theorem map_int_inj {a b : List Int} (h : a.map D.int = b.map D.int) : a = b := map_inj (fun x y z => by injection z) h
theorem neG_ints (a b : List Int) : neG (.lst (a.map D.int)) (.lst (b.map D.int)) = some (.d (.bl (!decide (a = b)))) := by
  obtain ⟨x, e, h⟩ := neG_clean (n := 1) (by decide) (clean_ints a) (clean_ints b)
  rw [e]
  cases x with
  | false =>
    have := map_int_inj (D.lst.inj (h.mp rfl))
    rw [decide_eq_true this]
    rfl
  | true =>
    have : a ≠ b := fun z => by
      subst z
      have := h.mpr rfl
      cases this
    rw [decide_eq_false this]
    rfl
theorem eqG_ints (a b : List Int) : eqG (.lst (a.map D.int)) (.lst (b.map D.int)) = some (.d (.bl (decide (a = b)))) := by
  obtain ⟨x, e, h⟩ := eqG_clean (n := 1) (by decide) (clean_ints a) (clean_ints b)
  rw [e]
  cases x with
  | true =>
    have := map_int_inj (D.lst.inj (h.mp rfl))
    rw [decide_eq_true this]
  | false =>
    have : a ≠ b := fun z => by
      subst z
      have := h.mpr rfl
      cases this
    rw [decide_eq_false this]
theorem listG_sq {p : D} (h : isLT p = true) {J : O → Prop} (z : J (.lst (sq p))) : listG [p] J := by cases p <;> first | exact z | cases h
theorem tupG_sq {p : D} (h : isLT p = true) {J : O → Prop} (z : J (.d (.tup (sq p)))) : tupG [p] J := by cases p <;> first | exact z | cases h
theorem pv_sq {p : D} (k : Pv p) : ∀ x ∈ sq p, Pv x := by
  cases k with
  | lst xs _ h => exact h
  | tup xs _ h => exact h
  | _ => exact fun x h => absurd h List.not_mem_nil
theorem first_bad {xs : List D} {k : Nat} (hk : k < xs.length) (h : ∀ e ∈ xs.take k, entB e = true) (hb : entB xs[k] = false) : xs.findIdx? (fun e => !entB e) = some k := by
  rw [List.findIdx?_eq_some_iff_getElem]
  refine ⟨hk, by rw [hb]; rfl, fun j hj => ?_⟩
  have := h xs[j] (List.mem_take_iff_getElem.mpr ⟨j, by omega, rfl⟩)
  rw [this]
  decide
theorem no_bad {xs : List D} (h : EntL xs) : xs.findIdx? (fun e => !entB e) = none := by
  rw [List.findIdx?_eq_none_iff]
  intro x hx
  rw [h x hx]
  rfl
section
variable {E : EK} {st : Ps} {f : Ex}
theorem sFldI_eo {K : PySem.W.Frag} {En : En} {i : Nat} {x C : Addr} {fs : List (Str × D)} {fn : Str} {g : Ox} {o : O} (h : Eo g E st o) (hρ : st.ρ[i]? = some (.ins x C fs)) (fo : FldOk K C fn) (hl : fs.length < 1000) (k : En.nx { st with ρ := st.ρ.set i (.ins x C (putFD fn o.toD fs)) }) : sFldI K i fn g E En st := h _ (by
  show (match st.ρ[i]? with
    | some (.ins x C fs) => FldOk K C fn ∧ fs.length < 1000 ∧ En.nx { st with ρ := st.ρ.set i (.ins x C (putFD fn o.toD fs)) }
    | _ => False)
  rw [hρ]
  exact ⟨fo, hl, k⟩)
theorem eo_lstRg {n : Nat} (hn : n ≤ 1000) (h : Ev f E st (.int (n : Nat))) : Eo (xLstRg f) E st (.lst ((rngI n).map D.int)) := fun Q z => h _ ⟨_, rfl, ⟨by omega, by omega⟩, by
  rw [Int.toNat_natCast, rng_ints]
  exact z⟩
theorem ev_lnL {xs : List D} (h : Ev f E st (.lst xs)) : Ev (xF (xB lenG (xCons f xNil))) E st (.int xs.length) := ev_od (eo_b1 h fun J z => z)
end
theorem prm_len (xs : List D) : (prm xs).length ≤ 4 := Nat.le_trans (List.length_filter_le _ _) (by decide)
variable {K : PySem.W.Frag} {cs : Cs} {E : EF} {S : List Cell} {Q : O → List Cell → Prop} {QI : List (Str × D) → List Cell → Prop} {x : Addr} {p t : D}
theorem w_is_list {v : D} (k : Pv v) (h : Q (.d (.bl (isLT v))) S) : m_is_list K cs [v] E S Q := by
  unfold m_is_list b_is_list
  simp only [mk, st0, List.map_cons, List.map_nil, List.cons_append, List.nil_append, List.length_cons, List.length_nil, Nat.reduceSub, Nat.reduceAdd, List.replicate]
  exact sRet_eo (eo_u (ev_od (eo_b (evA_cons (ev_V rfl) (evA_cons (ev_od (eo_tup (evA_cons ev_C (evA_cons ev_C evA_nil)) (by show 2 ≤ 1000; decide))) evA_nil)) fun J z => isiLT k z))) h
theorem w_tmpl (fk : Fk K cs) (kp : Pv p) (kt : Pv t) (hl : (sq p).length + (sq t).length ≤ 15) (hE : ∀ d, errT p t = some d → E cs.InvalidTemplate [("index", d)] S) (h : errT p t = none → QI (tmF p t) S) : i_Template___init__ K cs x [] [p, t] E S QI := by
  unfold i_Template___init__ b_Template___init__
  simp only [mk, st0, List.map_cons, List.map_nil, List.cons_append, List.nil_append, List.length_cons, List.length_nil, Nat.reduceSub, Nat.reduceAdd, List.replicate, mkI]
  refine seq_go fun N1 h1 => ?_
  refine sIf_tv (tv_or (tv_not (tv_ev (ev_od (eo_P (evA_cons (ev_V rfl) evA_nil) rfl fun E' Q z => w_is_list kp z)))) fun _ => tv_not (tv_ev (ev_od (eo_P (evA_cons (ev_V rfl) evA_nil) rfl fun E' Q z => w_is_list kt z)))) (fun z => ?_) fun z => h1 _ (seq_go fun N2 h2 => ?_)
  · have z : (!isLT p || !isLT t) = true := z
    have e : (isLT p && isLT t) = false := by
      revert z
      cases isLT p <;> cases isLT t <;> simp
    exact ⟨rfl, hE _ (by unfold errT; rw [if_pos e])⟩
  have z : (!isLT p || !isLT t) = false := z
  have ip : isLT p = true := by
    revert z
    cases isLT p <;> simp
  have it : isLT t = true := by
    revert z
    cases isLT t <;> simp
  clear h1 z
  have e0 : ¬ (isLT p && isLT t) = false := by rw [ip, it]; decide
  have px : ∀ e ∈ sq p ++ sq t, Pv e := fun e he => (List.mem_append.mp he).elim (pv_sq kp e) (pv_sq kt e)
  refine sSet_eo (o := .lst (sq p ++ sq t)) (eo_op (ev_o (eo_b1 (o := .lst (sq p)) (ev_V rfl) fun J z => listG_sq ip z)) (ev_o (eo_b1 (o := .lst (sq t)) (ev_V rfl) fun J z => listG_sq it z)) (addL (by omega))) (h2 _ (seq_go fun N3 h3 => ?_))
  clear h2
  have lx : (sq p ++ sq t).length ≤ 15 := by rw [List.length_append]; exact hl
  unfold errT at hE h
  rw [if_neg e0] at hE h
  generalize hxs : sq p ++ sq t = xs at px lx hE h
  have hp : ∀ (E : EK) (st : Ps), st.ρ[1]? = some (.d p) → Eo (xB tupG (xCons (xV 1) xNil)) E st (.d (.tup (sq p))) := fun E st hs => eo_b1 (ev_V hs) fun J z => tupG_sq ip z
  have ht : ∀ (E : EK) (st : Ps), st.ρ[2]? = some (.d t) → Eo (xB tupG (xCons (xV 2) xNil)) E st (.d (.tup (sq t))) := fun E st hs => eo_b1 (ev_V hs) fun J z => tupG_sq it z
  simp only [sFor, iEn]
  refine (evA_cons (ev_V (d := .lst xs) (by rw [← hxs]; rfl)) evA_nil) _ ?_
  show forW _ _ _ _ (enumD 0 xs) _
  refine forW_by (fun ds st => ∃ (k : Nat) (o5 o6 : O), ds = enumD k (xs.drop k) ∧ (∀ e ∈ xs.take k, entB e = true) ∧ k ≤ xs.length ∧ st = ⟨[.ins x cs.Template [], .d p, .d t, .d (.lst xs), .un, o5, o6], S, false, false⟩) ?_ ?_ _ _ ⟨0, .un, .un, rfl, fun e he => absurd he (by simp), Nat.zero_le _, by rw [← hxs]; rfl⟩
  · rintro st ⟨k, o5, o6, e1, e2, e3, rfl⟩
    have hx : EntL xs := fun e he => by
      by_cases hk : k < xs.length
      · rw [List.drop_eq_getElem_cons hk] at e1
        cases e1
      · rw [List.take_of_length_le (by omega)] at e2
        exact e2 e he
    rw [no_bad hx] at hE h
    refine h3 _ (seq_go fun N4 h4 => ?_)
    clear h3
    refine sSet_eo (o := .d (.lst ((prm xs).map D.int))) (eo_P (evA_cons (ev_V rfl) evA_nil) rfl fun E' Q z => w_parameters_in hx lx z) (h4 _ (seq_go fun N5 h5 => ?_))
    have ln : ∀ (E : EK) (st : Ps), st.ρ[4]? = some (.d (.lst ((prm xs).map D.int))) → Ev (xF (xB lenG (xCons (xV 4) xNil))) E st (.int ((prm xs).length : Nat)) := fun E st hs => by
      have := ev_lnL (E := E) (ev_V hs)
      rw [List.length_map] at this
      exact this
    have pl := prm_len xs
    refine sIf_tv (tv_o (eo_op (ev_V rfl) (ev_o (eo_lstRg (n := (prm xs).length) (by omega) (ln _ _ rfl))) (neG_ints _ _))) (fun z => ?_) fun z => h5 _ ?_
    · have z : (!decide (prm xs = rngI (prm xs).length)) = true := z
      rw [Bool.not_eq_true', decide_eq_false_iff_not] at z
      exact ⟨rfl, hE _ (by simp only [z, if_false])⟩
    · have z : (!decide (prm xs = rngI (prm xs).length)) = false := z
      rw [Bool.not_eq_false', decide_eq_true_eq] at z
      have fin := h (by simp only [if_pos z])
      clear h4 h5 hE h
      refine seq_go fun N6 h6 => sFldI_eo (hp _ _ rfl) rfl fk.f_Template_own_put (by decide) (h6 _ (seq_go fun N7 h7 => ?_))
      refine sFldI_eo (ht _ _ rfl) rfl fk.f_Template_own_taken (by show 1 < 1000; decide) (h7 _ ?_)
      refine sFldI_eo (eo_b1 (o := .d (.int ((prm xs).length : Nat))) (ev_V (d := .lst ((prm xs).map D.int)) rfl) fun J z => ?_) rfl fk.f_Template_many (by simp only [putFD, tf01, if_false]; show 2 < 1000; decide) ?_
      · show J (.d (.int ((((prm xs).map D.int).length : Nat) : Int)))
        rw [List.length_map]
        exact z
      · unfold tmF at fin
        rw [hxs] at fin
        simp only [putFD, tf01, tf02, tf12, if_false, endI]
        exact ⟨rfl, rfl, fin⟩
  · rintro d ds st ⟨k, o5, o6, e1, e2, e3, rfl⟩ N hN
    have hk : k < xs.length := by
      rcases Nat.lt_or_ge k xs.length with z | z
      · exact z
      · rw [List.drop_eq_nil_of_le z] at e1
        cases e1
    rw [List.drop_eq_getElem_cons hk] at e1
    injection e1 with e4 e5
    subst e4 e5
    refine ⟨rfl, rfl, ?_⟩
    refine sIf_tv (tv_not (tv_ev (ev_od (eo_P (ds := [xs[k]]) (evA_cons (ev_V rfl) evA_nil) rfl fun E' Q z => w_is_entry (px _ (List.getElem_mem hk)) z)))) (fun z => ?_) fun z => ?_
    · have z : (!entB xs[k]) = true := z
      rw [Bool.not_eq_true'] at z
      rw [first_bad hk e2 z] at hE
      exact ⟨rfl, hE _ rfl⟩
    · have z : (!entB xs[k]) = false := z
      rw [Bool.not_eq_false'] at z
      refine hN _ ⟨k + 1, _, _, rfl, fun e he => ?_, by omega, rfl⟩
      rw [List.take_add_one, List.getElem?_eq_getElem hk] at he
      rcases List.mem_append.mp he with he | he
      · exact e2 e he
      · rw [show e = xs[k] by simpa using he]
        exact z
end Q
/-! what is due, and what is told -/
namespace Q
open PySem L2 PySem.Spec PyProof.Rows
def dueT (p t : D) : D := match errT p t with
  | some d => d
  | none => .str "right"
/-- the places of what is no entry -/
def badL : Nat → List D → List Nat
  | _, [] => []
  | n, x :: xs => if entB x = false then n :: badL (n + 1) xs else badL (n + 1) xs
theorem bad_head : ∀ (xs : List D) (n : Nat), (badL n xs).head? = (xs.findIdx? fun e => !entB e).map (n + ·)
  | [], n => rfl
  | x :: xs, n => by
    unfold badL
    rw [List.findIdx?_cons]
    cases h : entB x with
    | false => simp
    | true =>
      rw [if_neg (by decide), bad_head xs (n + 1)]
      simp only [Bool.not_true, Bool.false_eq_true, if_false, Option.map_map]
      congr 1
      funext j
      show n + 1 + j = n + (j + 1)
      omega
theorem bad_filter {xs : List D} : ∀ (zs : List D) (n : Nat), (∀ j, zs[j]? = xs[n + j]?) → (List.range' n zs.length).filter (fun i => !entB (xs.getD i .non)) = badL n zs
  | [], n, _ => rfl
  | z :: zs, n, h => by
    rw [List.length_cons, List.range'_succ]
    have h0 : xs.getD n .non = z := by
      have := h 0
      rw [Nat.add_zero] at this
      rw [List.getD_eq_getElem?_getD, ← this]
      rfl
    have ih := bad_filter zs (n + 1) fun j => by
      have := h (j + 1)
      rw [List.getElem?_cons_succ] at this
      rw [this]
      congr 1
      omega
    unfold badL
    rw [List.filter_cons, h0, ih]
    cases entB z <;> rfl
theorem bad_rng (xs : List D) : (List.range xs.length).filter (fun i => !entB (xs.getD i .non)) = badL 0 xs := by
  rw [List.range_eq_range']
  exact bad_filter xs 0 fun j => by rw [Nat.zero_add]
def badP (xs : List D) : D → Bool
  | .int i => !entB (xs.getD i.toNat .non)
  | _ => false
theorem bad_ints (xs : List D) : ((rngD 0 xs.length).filter (badP xs)).map id = ((badL 0 xs).map fun (k : Nat) => (k : Int)).map D.int := by
  rw [List.map_id, ← bad_rng]
  unfold rngD
  rw [List.filter_map, List.map_map]
  have : (badP xs ∘ fun (i : Nat) => D.int (0 + (i : Int))) = fun i => !entB (xs.getD i .non) := by
    funext i
    show (!entB (xs.getD ((0 : Int) + (i : Int)).toNat .non)) = _
    rw [Int.zero_add, Int.toNat_natCast]
  rw [this]
  refine List.map_congr_left fun i _ => ?_
  show D.int (0 + (i : Int)) = D.int (i : Int)
  rw [Int.zero_add]
section
variable {E : EK} {st : Ps} {f : Ex} {d : D} {ga : Ax}
theorem xCons_go' {Q : List _root_.Q.R → Ps → Prop} (h1 : Ev f E st d) (h : ga E st fun rs st2 => Q (.v d :: rs) st2) : xCons f ga E st Q := h1 _ h
theorem sSet_h {i : Nat} {g : Ox} {K : En} (h : g E st fun o st' => K.nx { st' with ρ := st'.ρ.set i (.d o.toD) }) : sSet i g E K st := h
end
variable {K : PySem.W.Frag} {cs : Cs} {E : EF} {S : List Cell} {Q : O → List Cell → Prop} {p t : D}
theorem w_due (kp : Pv p) (kt : Pv t) (hl : (sq p).length + (sq t).length ≤ 15) (h : Q (.d (dueT p t)) S) : m__law_due K cs [p, t] E S Q := by
  unfold m__law_due b__law_due
  simp only [mk, st0, List.map_cons, List.map_nil, List.cons_append, List.nil_append, List.length_cons, List.length_nil, Nat.reduceSub, Nat.reduceAdd, List.replicate]
  have hI : ∀ (E : EK) (st : Ps) (i : Nat) (v : D), Pv v → st.ρ[i]? = some (.d v) → Tv (xNotT (xT (xF (xB (isiG K) (xCons (xV i) (xCons (xF (xTup (xCons (xC (.ty "list")) (xCons (xC (.ty "tuple")) xNil)))) xNil)))))) E st (!isLT v) := fun E st i v k hs => tv_not (tv_ev (ev_od (eo_b (evA_cons (ev_V hs) (evA_cons (ev_od (eo_tup (evA_cons ev_C (evA_cons ev_C evA_nil)) (by show 2 ≤ 1000; decide))) evA_nil)) fun J z => isiLT k z)))
  refine seq_go fun N1 h1 => sIf_tv (tv_or (hI _ _ 0 p kp rfl) fun _ => hI _ _ 1 t kt rfl) (fun z => ?_) fun z => h1 _ (seq_go fun N2 h2 => ?_)
  · have z : (!isLT p || !isLT t) = true := z
    have e : (isLT p && isLT t) = false := by
      revert z
      cases isLT p <;> cases isLT t <;> simp
    unfold dueT errT at h
    rw [if_pos e] at h
    exact sRet_eo (eo_u ev_C) h
  have z : (!isLT p || !isLT t) = false := z
  have ip : isLT p = true := by
    revert z
    cases isLT p <;> simp
  have it : isLT t = true := by
    revert z
    cases isLT t <;> simp
  clear h1 z
  have e0 : ¬ (isLT p && isLT t) = false := by rw [ip, it]; decide
  have px : ∀ e ∈ sq p ++ sq t, Pv e := fun e he => (List.mem_append.mp he).elim (pv_sq kp e) (pv_sq kt e)
  refine sSet_eo (o := .lst (sq p ++ sq t)) (eo_op (ev_o (eo_b1 (o := .lst (sq p)) (ev_V rfl) fun J z => listG_sq ip z)) (ev_o (eo_b1 (o := .lst (sq t)) (ev_V rfl) fun J z => listG_sq it z)) (addL (by omega))) (h2 _ (seq_go fun N3 h3 => ?_))
  clear h2
  have lx : (sq p ++ sq t).length ≤ 15 := by rw [List.length_append]; exact hl
  unfold dueT errT at h
  rw [if_neg e0] at h
  have bh := bad_head (sq p ++ sq t) 0
  have bi := bad_ints (sq p ++ sq t)
  generalize hxs : sq p ++ sq t = xs at px lx h bh bi
  refine sSet_h ?_
  unfold xLc iR1
  refine xCons_go' (ev_lnL (ev_V (d := .lst xs) (by rw [← hxs]; rfl))) ?_
  refine ⟨⟨by omega, by omega⟩, ?_⟩
  rw [Int.toNat_natCast]
  refine lcP_go (p := badP xs) (gg := id) (st := ⟨[.d p, .d t, .d (.lst xs), .un, .un, .un], S, false, false⟩) (rngD 0 xs.length) [] _ (by rw [← hxs]; rfl) ?_ ?_ ?_ ?_ ?_
  · unfold rngD
    rw [List.length_nil, List.length_map, List.length_range, sizeLine_eq]
    omega
  · intro d hd
    unfold rngD at hd
    obtain ⟨i, hi, rfl⟩ := List.mem_map.mp hd
    have hi := List.mem_range.mp hi
    have gi : xs[i]? = some xs[i] := List.getElem?_eq_getElem hi
    have e : badP xs (.int (0 + (i : Int))) = !entB xs[i] := by
      show (!entB (xs.getD ((0 : Int) + (i : Int)).toNat .non)) = _
      rw [Int.zero_add, Int.toNat_natCast, List.getD_eq_getElem?_getD, gi]
      rfl
    rw [e]
    refine tv_not (tv_ev (ev_od (eo_P (ds := [xs[i]]) (evA_cons (ev_od (eo_op (ev_V (d := .lst xs) rfl) (ev_V (d := .int (0 + (i : Int))) rfl) ?_)) evA_nil) rfl fun E' Q z => w_lis_entry (px _ (List.getElem_mem hi)) z)))
    rw [Int.zero_add]
    exact ixLn gi
  · exact fun d hd _ => ev_V rfl
  · exact fun d => rfl
  rw [List.nil_append, bi]
  refine h3 _ (seq_go fun N4 h4 => ?_)
  clear h3 bi
  refine sIf_tv (tv_o (eo_op (ev_V rfl) (ev_o (eo_lst evA_nil (Nat.zero_le _))) (neG_ints _ []))) (fun z => ?_) fun z => h4 _ (seq_go fun N5 h5 => ?_)
  · have z : (!decide (((badL 0 xs).map fun (k : Nat) => (k : Int)) = [])) = true := z
    rw [Bool.not_eq_true', decide_eq_false_iff_not] at z
    cases hb : badL 0 xs with
    | nil => rw [hb] at z; exact absurd rfl z
    | cons k r =>
      rw [hb] at bh
      have bh : some k = Option.map (0 + ·) (xs.findIdx? fun e => !entB e) := bh
      cases hf : xs.findIdx? fun e => !entB e with
      | none => rw [hf] at bh; cases bh
      | some j =>
        rw [hf] at bh
        have e : k = j := by
          have this : k = 0 + j := Option.some.inj bh
          omega
        subst e
        rw [hf] at h
        exact sRet_eo (eo_u (ev_od (eo_op (o := .d (.int (k : Int))) (ev_V rfl) ev_C (ixLn (k := 0) rfl)))) h
  · have z : (!decide (((badL 0 xs).map fun (k : Nat) => (k : Int)) = [])) = false := z
    rw [Bool.not_eq_false', decide_eq_true_eq, List.map_eq_nil_iff] at z
    rw [z] at bh
    have bh : none = Option.map (0 + ·) (xs.findIdx? fun e => !entB e) := bh
    have hf : (xs.findIdx? fun e => !entB e) = none := by
      cases hf : xs.findIdx? fun e => !entB e with
      | none => rfl
      | some j => rw [hf] at bh; cases bh
    have hx : EntL xs := fun e he => by
      have := List.findIdx?_eq_none_iff.mp hf e he
      simpa using this
    rw [hf] at h
    clear h4 bh
    refine sSet_eo (o := .d (.lst ((prm xs).map D.int))) (eo_P (evA_cons (ev_V rfl) evA_nil) rfl fun E' Q z => w_vused hx lx z) (h5 _ ?_)
    have pl := prm_len xs
    have ln : ∀ (E : EK) (st : Ps), st.ρ[4]? = some (.d (.lst ((prm xs).map D.int))) → Ev (xF (xB lenG (xCons (xV 4) xNil))) E st (.int ((prm xs).length : Nat)) := fun E st hs => by
      have := ev_lnL (E := E) (ev_V hs)
      rw [List.length_map] at this
      exact this
    have te : ∀ (E : EK) (st : Ps), st.ρ[4]? = some (.d (.lst ((prm xs).map D.int))) → Tv (xTO (xOp eqG (xV 4) (xF (xLstRg (xF (xB lenG (xCons (xV 4) xNil))))))) E st (decide (prm xs = rngI (prm xs).length)) := fun E st hs => tv_o (eo_op (ev_V hs) (ev_o (eo_lstRg (n := (prm xs).length) (by omega) (ln _ _ hs))) (eqG_ints _ _))
    by_cases hr : prm xs = rngI (prm xs).length
    · simp only [if_pos hr] at h
      refine sRetU_go (te _ _ rfl _ ?_)
      rw [decide_eq_true hr, if_pos rfl]
      exact h
    · simp only [if_neg hr] at h
      refine sRetU_go (te _ _ rfl _ ?_)
      rw [decide_eq_false hr, if_neg Bool.false_ne_true]
      exact h
end Q
/-! what is told; equal templates -/
namespace Q
open PySem L2 PySem.Spec PyProof.Rows
section
variable {E : EK} {st : Ps} {f f1 f2 : Ex} {d d1 d2 : D} {o : O}
theorem eo_pr {C : Addr} {m : MF} {x : Str} (h1 : Ev f E st d) (hc : clsOf st (.v d) x = some C) (h : ∀ (E' : EF) (Q : O → List Cell → Prop), Q o st.S → m [d] E' st.S Q) : Eo (xPr C (false, 1, m) x f) E st o := fun Q z => h1 _ ⟨hc, by
  unfold cA
  rw [if_neg Bool.false_ne_true]
  show opt (some [d]) fun ds => opt (some ([d], st)) fun q => _
  exact ⟨rfl, h _ _ (by
    show if isSc o = true then Q o st else Q o st
    split <;> exact z)⟩⟩
theorem eo_eqS {C : Addr} {m : MF} {n b : Bool} (h1 : Ev f1 E st d1) (h2 : Ev f2 E st d2) (c1 : clsOf st (.v d1) "__eq__" = some C) (c2 : clsOf st (.v d2) "__eq__" = some C) (h : ∀ (E' : EF) (Q : O → List Cell → Prop), Q (.d (.bl b)) st.S → m [d1, d2] E' st.S Q) : Eo (xEqS C (false, 2, m) n f1 f2) E st (.d (.bl (if n then !b else b))) := fun Q z => h1 _ (h2 _ ⟨c1, c2, by
  unfold cA
  rw [if_neg Bool.false_ne_true]
  show opt (some [d1, d2]) fun ds => opt (some ([d1, d2], st)) fun q => _
  exact ⟨rfl, h _ _ z⟩⟩)
theorem eo_eqT {C : Addr} {m : MF} {b : Bool} {ds : List D} (h1 : Ev f1 E st d1) (h2 : Ev f2 E st (.tup ds)) (c1 : clsOf st (.v d1) "__eq__" = some C) (h : ∀ (E' : EF) (Q : O → List Cell → Prop), Q (.d (.bl b)) st.S → m [d1, .tup ds] E' st.S Q) : Eo (xEqT C (2, m) f1 f2) E st (.d (.bl b)) := fun Q z => h1 _ (h2 _ ⟨c1, ⟨ds, rfl⟩, by
  unfold cP
  show opt (some [d1, .tup ds]) fun es => opt (some ([d1, .tup ds], st)) fun q => _
  exact ⟨rfl, h _ _ z⟩⟩)
theorem eo_neN {C : Addr} {m : MF} {b : Bool} (h1 : Ev f1 E st d1) (h2 : Ev f2 E st .non) (c1 : clsOf st (.v d1) "__eq__" = some C) (h : ∀ (E' : EF) (Q : O → List Cell → Prop), Q (.d (.bl b)) st.S → m [d1, .non] E' st.S Q) : Eo (xNeN C (2, m) f1 f2) E st (.d (.bl (!b))) := fun Q z => h1 _ (h2 _ ⟨c1, rfl, by
  unfold cP
  show opt (some [d1, .non]) fun es => opt (some ([d1, .non], st)) fun q => _
  exact ⟨rfl, h _ _ z⟩⟩)
theorem eo_calm {g : Ox} (hr : st.rw = true) (h : Eo g E0k ⟨st.ρ.map calmO, [], false, false⟩ (.d d)) (nl : noL d = true) : Eo (xCalm g) E st (.d d) := fun Q z => ⟨hr, h _ ⟨rfl, nl, z⟩⟩
theorem tv_calm {t : Tx} {b : Bool} (hr : st.rw = true) (h : Tv t E0k ⟨st.ρ.map calmO, [], false, false⟩ b) : Tv (xCalmT t) E st b := fun Q z => ⟨hr, h _ ⟨rfl, z⟩⟩
end
variable {K : PySem.W.Frag} {cs : Cs} {E : EF} {S : List Cell} {Q : O → List Cell → Prop} {p t : D}
def tmD (cs : Cs) (p t : D) : D := .ins cs.Template (tmF p t)
theorem cls_tm {st : Ps} {m : Str} (h : (tmF p t).lookup m = none) : clsOf st (.v (tmD cs p t)) m = some cs.Template := by
  show (if ((tmF p t).lookup m).isNone then some cs.Template else none) = _
  rw [h]
  rfl
theorem w_put (fk : Fk K cs) (h : Q (.d (.tup (sq p))) S) : m_Template_put_rows K cs [tmD cs p t] E S Q := by
  unfold m_Template_put_rows b_Template_put_rows
  simp only [mk, st0, List.map_cons, List.map_nil, List.cons_append, List.nil_append, List.length_cons, List.length_nil, Nat.reduceSub, Nat.reduceAdd, List.replicate]
  exact sRet_eo (eo_u (ev_od (eo_un (d := tmD cs p t) (ev_V rfl) fun J z => ⟨fk.f_Template_own_put, z⟩))) h
theorem w_taken (fk : Fk K cs) (h : Q (.d (.tup (sq t))) S) : m_Template_taken_rows K cs [tmD cs p t] E S Q := by
  unfold m_Template_taken_rows b_Template_taken_rows
  simp only [mk, st0, List.map_cons, List.map_nil, List.cons_append, List.nil_append, List.length_cons, List.length_nil, Nat.reduceSub, Nat.reduceAdd, List.replicate]
  exact sRet_eo (eo_u (ev_od (eo_un (d := tmD cs p t) (ev_V rfl) fun J z => ⟨fk.f_Template_own_taken, z⟩))) h
theorem w_many (fk : Fk K cs) (h : Q (.d (.int ((prm (sq p ++ sq t)).length : Nat))) S) : m_Template_parameters K cs [tmD cs p t] E S Q := by
  unfold m_Template_parameters b_Template_parameters
  simp only [mk, st0, List.map_cons, List.map_nil, List.cons_append, List.nil_append, List.length_cons, List.length_nil, Nat.reduceSub, Nat.reduceAdd, List.replicate]
  exact sRet_eo (eo_u (ev_od (eo_un (d := tmD cs p t) (ev_V rfl) fun J z => ⟨fk.f_Template_many, z⟩))) h
theorem errT_none {p t : D} (h : errT p t = none) : isLT p = true ∧ isLT t = true ∧ EntL (sq p ++ sq t) ∧ prm (sq p ++ sq t) = rngI (prm (sq p ++ sq t)).length := by
  unfold errT at h
  split at h
  · cases h
  · rename_i e0
    have ip : isLT p = true := by
      revert e0
      cases isLT p <;> simp
    have it : isLT t = true := by
      revert e0
      cases isLT t <;> simp
    split at h
    · cases h
    · rename_i hf
      split at h
      · rename_i hr
        refine ⟨ip, it, fun e he => ?_, hr⟩
        have := List.findIdx?_eq_none_iff.mp hf e he
        simpa using this
      · cases h
theorem errT_right {p t : D} (ip : isLT p = true) (it : isLT t = true) (hx : EntL (sq p ++ sq t)) (hr : prm (sq p ++ sq t) = rngI (prm (sq p ++ sq t)).length) : errT p t = none := by
  unfold errT
  rw [if_neg (by rw [ip, it]; decide), no_bad hx]
  simp only [if_pos hr]
theorem eqG_tups {xs ys : List D} (hx : EntL xs) (hy : EntL ys) : ∃ x, eqG (.tup xs) (.tup ys) = some (.d (.bl x)) ∧ (x = true ↔ xs = ys) := by
  obtain ⟨x, e, h⟩ := eqG_clean (n := 3) (by decide) (ents_cleanT hx) (ents_cleanT hy)
  exact ⟨x, e, h.trans ⟨fun z => D.tup.inj z, fun z => by rw [z]⟩⟩
theorem eqG_lsts {xs ys : List D} (hx : EntL xs) (hy : EntL ys) : ∃ x, eqG (.lst xs) (.lst ys) = some (.d (.bl x)) ∧ (x = true ↔ xs = ys) := by
  obtain ⟨x, e, h⟩ := eqG_clean (n := 3) (by decide) (ents_cleanL hx) (ents_cleanL hy)
  exact ⟨x, e, h.trans ⟨fun z => D.lst.inj z, fun z => by rw [z]⟩⟩
theorem ent_left {xs ys : List D} (h : EntL (xs ++ ys)) : EntL xs := fun e he => h e (List.mem_append_left _ he)
theorem ent_right {xs ys : List D} (h : EntL (xs ++ ys)) : EntL ys := fun e he => h e (List.mem_append_right _ he)
theorem w_told (fk : Fk K cs) (kp : Pv p) (kt : Pv t) (hl : (sq p).length + (sq t).length ≤ 15) (h : Q (.d (dueT p t)) S) : m__law_told K cs [p, t] E S Q := by
  unfold m__law_told b__law_told
  simp only [mk, st0, List.map_cons, List.map_nil, List.cons_append, List.nil_append, List.length_cons, List.length_nil, Nat.reduceSub, Nat.reduceAdd, List.replicate]
  refine seq_go fun N1 k1 => ?_
  unfold sTry
  refine sSet_h (xMk_of [p, t] (evA_cons (ev_V rfl) (evA_cons (ev_V rfl) evA_nil)) (fun z => nomatch z) rfl fun x => w_tmpl fk kp kt hl (fun d hd => ?_) fun hn => ?_)
  · unfold dueT at h
    rw [hd] at h
    refine ⟨true, fk.x_InvalidTemplate_InvalidTemplate, fun _ a od ho => ?_, fun z => absurd z (by decide)⟩
    cases od with
    | none => cases ho rfl
    | some d' =>
      simp only [mk, sRet, sRetN, sSeq, sNx, sIf, sSet, sSetO, sEx, xU, xF, xB, xCons, xNil, xV, xC, xMv, st0, opt, looks, look, frz, frzs, isiG, tyG, clsG, clssG, O.toD, xAnd, xOr, xNot, xIf, xIfO, xT, xTO, xNotT, xAndT, xOrT, xIfT, xYes, xOp, xUn, xTup, xLst, xCh, xLc, xDc, iA, itemsD, gN, gT, gsC, gsN, sFor, sAsg, isB, iiG0, lenG, listG, tupG, leG, ltG, geG, gtG, intG, Ps.wp, wipeO, xP, xE, cP, cE, isSc, List.map_cons, List.map_nil, List.cons_append, List.nil_append, List.length_cons, List.length_nil, List.getElem?_cons_zero, List.getElem?_cons_succ, List.replicate, List.set_cons_zero, List.set_cons_succ, Nat.reduceSub, Nat.reduceAdd, if_true, if_false, Bool.false_eq_true, reduceCtorEq, truD, Bool.not_true, Bool.not_false, Option.map_some, at0, at1, at2, eqI, neI, true_and, and_true, implies_true, ne_eq, not_false_eq_true, Nat.reduceEqDiff, xXf, isiX, errD, enX, fk.k1]
      exact ⟨d', _, rfl, rfl, h⟩
  · unfold dueT at h
    rw [hn] at h
    obtain ⟨ip, it, hx, hr⟩ := errT_none hn
    refine k1 _ (seq_go fun N2 k2 => ?_)
    clear k1
    have hp : ∀ (E : EK) (st : Ps), st.ρ[3]? = some (.d (tmD cs p t)) → Ev (xF (xPr cs.Template (false, 1, m_Template_put_rows K cs) "put_rows" (xV 3))) E st (.tup (sq p)) := fun E st hs => ev_od (eo_pr (ev_V hs) (cls_tm rfl) fun E' Q z => w_put fk z)
    have ht : ∀ (E : EK) (st : Ps), st.ρ[3]? = some (.d (tmD cs p t)) → Ev (xF (xPr cs.Template (false, 1, m_Template_taken_rows K cs) "taken_rows" (xV 3))) E st (.tup (sq t)) := fun E st hs => ev_od (eo_pr (ev_V hs) (cls_tm rfl) fun E' Q z => w_taken fk z)
    have n1 := neG_self (n := 3) (by decide) (ents_cleanT (ent_left hx))
    have n2 := neG_self (n := 3) (by decide) (ents_cleanT (ent_right hx))
    refine sIf_tv (b := false || false) (tv_or (tv_o (eo_op (hp _ _ rfl) (ev_od (eo_b1 (o := .d (.tup (sq p))) (ev_V rfl) fun J z => tupG_sq ip z)) n1)) fun _ => tv_o (eo_op (ht _ _ rfl) (ev_od (eo_b1 (o := .d (.tup (sq t))) (ev_V rfl) fun J z => tupG_sq it z)) n2)) (fun z => nomatch z) fun _ => k2 _ (sRet_eo (eo_u ev_C) h)
theorem isi_tm (fk : Fk K cs) {J : O → Prop} (z : J (.d (.bl true))) : isiG K [tmD cs p t, .cls cs.Template] J := ⟨fk.i_Template, by simp only [clsG, opt, fk.k0]; exact z⟩
theorem w_eq (fk : Fk K cs) {p' t' : D} (hp : EntL (sq p)) (ht : EntL (sq t)) (hp' : EntL (sq p')) (ht' : EntL (sq t')) {b : Bool} (hb : b = true ↔ sq p = sq p' ∧ sq t = sq t') (h : Q (.d (.bl b)) S) : m_Template___eq__ K cs [tmD cs p t, tmD cs p' t'] E S Q := by
  unfold m_Template___eq__ b_Template___eq__
  simp only [mk, st0, List.map_cons, List.map_nil, List.cons_append, List.nil_append, List.length_cons, List.length_nil, Nat.reduceSub, Nat.reduceAdd, List.replicate]
  obtain ⟨x, ex, hx⟩ := eqG_tups hp hp'
  obtain ⟨y, ey, hy⟩ := eqG_tups ht ht'
  have e : b = (x && y) := by
    rw [Bool.eq_iff_iff, hb, Bool.and_eq_true, hx, hy]
  rw [e] at h
  refine seq_go fun N1 h1 => sIf_tv (b := false) (tv_not (b := true) (tv_ev (ev_od (eo_b (ds := [tmD cs p' t', .cls cs.Template]) (evA_cons (ev_V rfl) (evA_cons ev_C evA_nil)) fun J z => isi_tm fk z)))) (fun z => nomatch z) fun _ => h1 _ ?_
  exact sRet_eo (eo_u (ev_and (ev_od (eo_op (ev_od (eo_un (d := tmD cs p t) (ev_V rfl) fun J z => ⟨fk.f_Template_own_put, z⟩)) (ev_od (eo_un (d := tmD cs p' t') (ev_V rfl) fun J z => ⟨fk.f_Template_own_put, z⟩)) ex)) fun _ => ev_od (eo_op (ev_od (eo_un (d := tmD cs p t) (ev_V rfl) fun J z => ⟨fk.f_Template_own_taken, z⟩)) (ev_od (eo_un (d := tmD cs p' t') (ev_V rfl) fun J z => ⟨fk.f_Template_own_taken, z⟩)) ey))) h
theorem w_eq_tup (fk : Fk K cs) {ds : List D} (h : Q (.d (.bl false)) S) : m_Template___eq__ K cs [tmD cs p t, .tup ds] E S Q := by
  unfold m_Template___eq__ b_Template___eq__
  simp only [mk, st0, List.map_cons, List.map_nil, List.cons_append, List.nil_append, List.length_cons, List.length_nil, Nat.reduceSub, Nat.reduceAdd, List.replicate]
  refine seq_go fun N1 h1 => sIf_tv (b := true) (tv_not (b := false) (tv_ev (ev_od (eo_b (ds := [.tup ds, .cls cs.Template]) (evA_cons (ev_V rfl) (evA_cons ev_C evA_nil)) fun J z => ?_)))) (fun _ => sRet_eo (eo_u ev_C) h) fun z => nomatch z
  show opt (clsG (.cls cs.Template)) fun u => opt (PySem.W.kitOne K (.type "tuple") u) fun b => J (.d (.bl b))
  simp only [clsG, opt, fk.k2]
  exact z
theorem w_eq_non (fk : Fk K cs) (h : Q (.d (.bl false)) S) : m_Template___eq__ K cs [tmD cs p t, .non] E S Q := by
  unfold m_Template___eq__ b_Template___eq__
  simp only [mk, st0, List.map_cons, List.map_nil, List.cons_append, List.nil_append, List.length_cons, List.length_nil, Nat.reduceSub, Nat.reduceAdd, List.replicate]
  refine seq_go fun N1 h1 => sIf_tv (b := true) (tv_not (b := false) (tv_ev (ev_od (eo_b (ds := [.non, .cls cs.Template]) (evA_cons (ev_V rfl) (evA_cons ev_C evA_nil)) fun J z => ?_)))) (fun _ => sRet_eo (eo_u ev_C) h) fun z => nomatch z
  show opt (clsG (.cls cs.Template)) fun u => opt (PySem.W.kitOne K (.type "NoneType") u) fun b => J (.d (.bl b))
  simp only [clsG, opt, fk.k3]
  exact z
theorem w_same (fk : Fk K cs) {p' t' : D} (hp : EntL (sq p)) (ht : EntL (sq t)) (hp' : EntL (sq p')) (ht' : EntL (sq t')) {b : Bool} (hb : b = true ↔ sq p = sq p' ∧ sq t = sq t') (h : Q (.d (.bl b)) S) : m__law_same K cs [tmD cs p t, tmD cs p' t'] E S Q := by
  unfold m__law_same b__law_same
  simp only [mk, st0, List.map_cons, List.map_nil, List.cons_append, List.nil_append, List.length_cons, List.length_nil, Nat.reduceSub, Nat.reduceAdd, List.replicate]
  have hb' : b = true ↔ sq p' = sq p ∧ sq t' = sq t := hb.trans ⟨fun ⟨a, b⟩ => ⟨a.symm, b.symm⟩, fun ⟨a, b⟩ => ⟨a.symm, b.symm⟩⟩
  have e : b = (b && (b && !(!b))) := by cases b <;> rfl
  rw [e] at h
  have q1 := fun (E : EK) (n : Bool) => eo_eqS (E := E) (n := n) (C := cs.Template) (m := m_Template___eq__ K cs) (f1 := xV 0) (f2 := xV 1) (b := b) (st := ⟨[.d (tmD cs p t), .d (tmD cs p' t')], S, false, false⟩) (ev_V (i := 0) rfl) (ev_V (i := 1) rfl) (cls_tm rfl) (cls_tm rfl) fun E' Q z => w_eq fk hp ht hp' ht' hb z
  have q2 := fun (E : EK) => eo_eqS (E := E) (n := false) (C := cs.Template) (m := m_Template___eq__ K cs) (f1 := xV 1) (f2 := xV 0) (b := b) (st := ⟨[.d (tmD cs p t), .d (tmD cs p' t')], S, false, false⟩) (ev_V (i := 1) rfl) (ev_V (i := 0) rfl) (cls_tm rfl) (cls_tm rfl) fun E' Q z => w_eq fk hp' ht' hp ht hb' z
  exact sRet_eo (eo_u (ev_and (ev_od (q1 _ false)) fun _ => ev_and (ev_od (q2 _)) fun _ => ev_not (ev_od (q1 _ true)))) h
end Q
/-! nice values: plain, without cells, not too long when shown; an entry drawn, an odd value, a bad entry -/
namespace Q
open PySem L2 PySem.Spec PyProof.Rows
mutual
def pvB : D → Bool
  | .non => true
  | .bl _ => true
  | .int _ => true
  | .str s => decide (s.length ≤ 1000)
  | .lst xs => decide (xs.length ≤ 1000) && pvBs xs
  | .tup xs => decide (xs.length ≤ 1000) && pvBs xs
  | .dK _ => true
  | _ => false
def pvBs : List D → Bool
  | [] => true
  | x :: xs => pvB x && pvBs xs
end
mutual
theorem pv_of : ∀ {d : D}, pvB d = true → Pv d
  | .non, _ => .non
  | .bl _, _ => .bl _
  | .int _, _ => .int _
  | .str s, h => .str s (by rw [pvB] at h; exact of_decide_eq_true h)
  | .lst xs, h => by
    rw [pvB, Bool.and_eq_true] at h
    exact .lst xs (of_decide_eq_true h.1) (pvs_of h.2)
  | .tup xs, h => by
    rw [pvB, Bool.and_eq_true] at h
    exact .tup xs (of_decide_eq_true h.1) (pvs_of h.2)
  | .dK _, _ => .dK _
  | .ins _ _, h => by cases h
  | .cell _, h => by cases h
  | .ty _, h => by cases h
theorem pvs_of : ∀ {xs : List D}, pvBs xs = true → ∀ x ∈ xs, Pv x
  | [], _ => fun _ h => absurd h List.not_mem_nil
  | x :: xs, h => by
    rw [pvBs, Bool.and_eq_true] at h
    intro y hy
    rcases List.mem_cons.mp hy with e | hy
    · rw [e]; exact pv_of h.1
    · exact pvs_of h.2 y hy
end
structure Nv (d w : Nat) (v : D) : Prop where
  pv : Pv v
  nc : noC v = true
  sh : ∃ p, toR v = some p ∧ p.showable = true ∧ p.depth ≤ d ∧ p.leavesShort 70 = true ∧ p.weight ≤ w
structure NvL (d w : Nat) (xs : List D) : Prop where
  pv : ∀ x ∈ xs, Pv x
  nc : noCs xs = true
  sh : ∃ ps, toRs xs = some ps ∧ PyData.showableAll ps = true ∧ PyData.depthAll ps ≤ d ∧ PyData.leavesShortAll 70 ps = true ∧ PyData.weightAll ps ≤ w
theorem Nv.mono {d w d' w' : Nat} {v : D} (h : Nv d w v) (hd : d ≤ d') (hw : w ≤ w') : Nv d' w' v := by
  obtain ⟨p, a, b, c, e, f⟩ := h.sh
  exact ⟨h.pv, h.nc, p, a, b, by omega, e, by omega⟩
theorem NvL.mono {d w d' w' : Nat} {xs : List D} (h : NvL d w xs) (hd : d ≤ d') (hw : w ≤ w') : NvL d' w' xs := by
  obtain ⟨p, a, b, c, e, f⟩ := h.sh
  exact ⟨h.pv, h.nc, p, a, b, by omega, e, by omega⟩
theorem nvl_nil {d : Nat} : NvL d 0 [] := ⟨fun x h => absurd h List.not_mem_nil, rfl, [], rfl, rfl, Nat.zero_le _, rfl, Nat.le_refl _⟩
theorem nvl_cons {d w w' : Nat} {x : D} {xs : List D} (h : Nv d w x) (t : NvL d w' xs) : NvL d (w + 1 + w') (x :: xs) := by
  obtain ⟨p, a1, a2, a3, a4, a5⟩ := h.sh
  obtain ⟨ps, b1, b2, b3, b4, b5⟩ := t.sh
  refine ⟨fun y hy => (List.mem_cons.mp hy).elim (fun e => by rw [e]; exact h.pv) (t.pv y), by rw [noCs, h.nc, t.nc]; rfl, p :: ps, by rw [toRs, a1, b1]; rfl, by rw [PyData.showableAll, a2, b2]; rfl, ?_, by rw [PyData.leavesShortAll, a4, b4]; rfl, ?_⟩
  · rw [PyData.depthAll]
    exact Nat.max_le.mpr ⟨a3, b3⟩
  · rw [PyData.weightAll]
    omega
theorem NvL.uncons {d w : Nat} {x : D} {xs : List D} (h : NvL d w (x :: xs)) : ∃ w1 w2, Nv d w1 x ∧ NvL d w2 xs ∧ w1 + 1 + w2 ≤ w := by
  obtain ⟨qs, a1, a2, a3, a4, a5⟩ := h.sh
  rw [toRs] at a1
  obtain ⟨p, e1, a1⟩ := Option.bind_eq_some_iff.mp a1
  obtain ⟨ps, e2, rfl⟩ := Option.map_eq_some_iff.mp a1
  have n := h.nc
  rw [noCs, Bool.and_eq_true] at n
  rw [PyData.showableAll, Bool.and_eq_true] at a2
  rw [PyData.depthAll, Nat.max_le] at a3
  rw [PyData.leavesShortAll, Bool.and_eq_true] at a4
  rw [PyData.weightAll] at a5
  exact ⟨p.weight, PyData.weightAll ps, ⟨h.pv x List.mem_cons_self, n.1, p, e1, a2.1, a3.1, a4.1, Nat.le_refl _⟩, ⟨fun y hy => h.pv y (List.mem_cons_of_mem _ hy), n.2, ps, e2, a2.2, a3.2, a4.2, Nat.le_refl _⟩, a5⟩
theorem nvl_app {d w w' : Nat} : ∀ {xs ys : List D}, NvL d w xs → NvL d w' ys → NvL d (w + w') (xs ++ ys)
  | [], ys, _, h => h.mono (Nat.le_refl _) (by omega)
  | x :: xs, ys, h, h' => by
    obtain ⟨w1, w2, a, b, c⟩ := h.uncons
    exact (nvl_cons a (nvl_app b h')).mono (Nat.le_refl _) (by omega)
theorem NvL.take {d : Nat} : ∀ {xs : List D} {w : Nat} (k : Nat), NvL d w xs → NvL d w (xs.take k)
  | xs, w, 0, h => by rw [List.take_zero]; exact nvl_nil.mono (Nat.le_refl _) (Nat.zero_le _)
  | [], w, k + 1, h => h
  | x :: xs, w, k + 1, h => by
    obtain ⟨w1, w2, a, b, c⟩ := h.uncons
    rw [List.take_succ_cons]
    exact (nvl_cons a (b.take k)).mono (Nat.le_refl _) c
theorem NvL.drop {d : Nat} : ∀ {xs : List D} {w : Nat} (k : Nat), NvL d w xs → NvL d w (xs.drop k)
  | xs, w, 0, h => h
  | [], w, k + 1, h => h
  | x :: xs, w, k + 1, h => by
    obtain ⟨w1, w2, a, b, c⟩ := h.uncons
    rw [List.drop_succ_cons]
    exact (b.drop k).mono (Nat.le_refl _) (by omega)
theorem NvL.set {d wv : Nat} {v : D} (hv : Nv d wv v) : ∀ {xs : List D} {w : Nat} (k : Nat), NvL d w xs → NvL d (w + wv + 1) (xs.set k v)
  | [], w, k, h => h.mono (Nat.le_refl _) (by omega)
  | x :: xs, w, 0, h => by
    obtain ⟨w1, w2, a, b, c⟩ := h.uncons
    exact (nvl_cons hv b).mono (Nat.le_refl _) (by omega)
  | x :: xs, w, k + 1, h => by
    obtain ⟨w1, w2, a, b, c⟩ := h.uncons
    rw [List.set_cons_succ]
    exact (nvl_cons a (b.set hv k)).mono (Nat.le_refl _) (by omega)
theorem NvL.mem {d : Nat} : ∀ {xs : List D} {w : Nat} {x : D}, NvL d w xs → x ∈ xs → Nv d w x
  | y :: xs, w, x, h, hx => by
    obtain ⟨w1, w2, a, b, c⟩ := h.uncons
    rcases List.mem_cons.mp hx with e | hx
    · rw [e]; exact a.mono (Nat.le_refl _) (by omega)
    · exact (b.mem hx).mono (Nat.le_refl _) (by omega)
theorem NvL.len {d : Nat} : ∀ {xs : List D} {w : Nat}, NvL d w xs → xs.length ≤ w
  | [], w, _ => Nat.zero_le _
  | x :: xs, w, h => by
    obtain ⟨w1, w2, a, b, c⟩ := h.uncons
    have := b.len
    rw [List.length_cons]
    omega
theorem nv_tup {d w : Nat} {xs : List D} (h : NvL d w xs) (hw : w ≤ 1000) : Nv (d + 1) w (.tup xs) := by
  have hl := h.len
  obtain ⟨ps, a1, a2, a3, a4, a5⟩ := h.sh
  refine ⟨.tup _ (by omega) h.pv, by rw [noC]; exact h.nc, .tuple ps, by rw [toR, a1]; rfl, by rw [PyData.showable]; exact a2, by rw [PyData.depth]; omega, by rw [PyData.leavesShort]; exact a4, by rw [PyData.weight]; exact a5⟩
theorem nv_lst {d w : Nat} {xs : List D} (h : NvL d w xs) (hw : w ≤ 1000) : Nv (d + 1) w (.lst xs) := by
  have hl := h.len
  obtain ⟨ps, a1, a2, a3, a4, a5⟩ := h.sh
  refine ⟨.lst _ (by omega) h.pv, by rw [noC]; exact h.nc, .list ps, by rw [toR, a1]; rfl, by rw [PyData.showable]; exact a2, by rw [PyData.depth]; omega, by rw [PyData.leavesShort]; exact a4, by rw [PyData.weight]; exact a5⟩
/-- the same by a look -/
def nvC (d w : Nat) (v : D) : Bool := pvB v && noC v && match toR v with
  | some p => p.showable && decide (p.depth ≤ d) && p.leavesShort 70 && decide (p.weight ≤ w)
  | none => false
theorem nv_of {d w : Nat} {v : D} (h : nvC d w v = true) : Nv d w v := by
  unfold nvC at h
  rw [Bool.and_eq_true, Bool.and_eq_true] at h
  obtain ⟨⟨h1, h2⟩, h3⟩ := h
  split at h3
  · rename_i p e
    rw [Bool.and_eq_true, Bool.and_eq_true, Bool.and_eq_true] at h3
    obtain ⟨⟨⟨a, b⟩, c⟩, f⟩ := h3
    exact ⟨pv_of h1, h2, p, e, a, of_decide_eq_true b, c, of_decide_eq_true f⟩
  · cases h3
theorem ok_short {s : Str} (h : PyData.strOk s = true) : (PyData.str s).leavesShort 70 = true := by
  unfold PyData.leavesShort
  unfold PyData.strOk at h
  rw [← Array.all_toList, List.all_eq_true] at h
  rw [List.all_eq_true]
  intro c hc
  exact decide_eq_true (Nat.lt_trans (of_decide_eq_true (h c hc)) (by decide))
theorem nv_word {s : Str} (h : wordB s = true) : Nv 0 8 (.str s) := by
  have l := (word_len h).2
  exact ⟨.str s (by omega), rfl, .str s, rfl, rfl, by rw [PyData.depth]; exact Nat.le_refl _, ok_short (word_ok h), l⟩
theorem nv_cel {c : D} (h : celB c = true) : Nv 0 8 c := by
  cases c with
  | int i =>
    obtain ⟨h0, h3⟩ := num_cel (c := .int i) h rfl
    have : i = 0 ∨ i = 1 ∨ i = 2 ∨ i = 3 := by omega
    rcases this with rfl | rfl | rfl | rfl <;> exact nv_of (by decide +kernel)
  | str s =>
    have h : (false || wordB s) = true := h
    rw [Bool.false_or] at h
    exact nv_word h
  | _ => cases h
theorem nv_cels : ∀ {ys : List D}, (∀ c ∈ ys, celB c = true) → NvL 0 (9 * ys.length) ys
  | [], _ => nvl_nil
  | c :: ys, h => (nvl_cons (nv_cel (h c List.mem_cons_self)) (nv_cels fun x hx => h x (List.mem_cons_of_mem _ hx))).mono (Nat.le_refl _) (by rw [List.length_cons]; omega)
theorem nv_ent {e : D} (h : entB e = true) : Nv 2 38 e := by
  obtain ⟨a, ys, rfl, w, _, l3, hc⟩ := ent_cells h
  exact (nv_tup (nvl_cons ((nv_word w).mono (Nat.zero_le _) (Nat.le_refl _)) (nvl_cons (nv_tup ((nv_cels hc).mono (Nat.le_refl _) (show 9 * ys.length ≤ 27 by omega)) (by decide)) nvl_nil)) (by decide)).mono (by decide) (by decide)
theorem nv_ents : ∀ {xs : List D}, EntL xs → NvL 2 (39 * xs.length) xs
  | [], _ => nvl_nil
  | e :: xs, h => (nvl_cons (nv_ent (h e List.mem_cons_self)) (nv_ents fun x hx => h x (List.mem_cons_of_mem _ hx))).mono (Nat.le_refl _) (by rw [List.length_cons]; omega)
end Q
/-! an odd value, a bad entry, an entry -/
namespace Q
open PySem L2 PySem.Spec PyProof.Rows
section
variable {E : EK} {st : Ps} {f f1 f2 : Ex} {ga : Ax} {d d1 d2 w w' k : Nat}
def EvN (d w : Nat) (f : Ex) (E : EK) (st : Ps) : Prop := ∃ v, Nv d w v ∧ Ev f E st v
def EvNA (d w : Nat) (ga : Ax) (E : EK) (st : Ps) : Prop := ∃ ds, NvL d w ds ∧ EvA ga E st ds
def EvNs (k : Nat) (ga : Ax) (E : EK) (st : Ps) : Prop := ∃ ds : List D, ds.length = k ∧ (∀ x ∈ ds, Nv 4 150 x) ∧ EvA ga E st ds
theorem nA_nil : EvNA d 0 xNil E st := ⟨[], nvl_nil, evA_nil⟩
theorem nA_cons (h : EvN d1 w f E st) (hd : d1 ≤ d) (t : EvNA d w' ga E st) : EvNA d (w + 1 + w') (xCons f ga) E st := by
  obtain ⟨v, a, b⟩ := h
  obtain ⟨ds, p, q⟩ := t
  exact ⟨v :: ds, nvl_cons (a.mono hd (Nat.le_refl _)) p, evA_cons b q⟩
theorem nT (h : EvNA d w ga E st) (hw : w ≤ 1000) : EvN (d + 1) w (xF (xTup ga)) E st := by
  obtain ⟨ds, p, q⟩ := h
  exact ⟨.tup ds, nv_tup p hw, ev_od (eo_tup q (by have := p.len; omega))⟩
theorem nL (h : EvNA d w ga E st) (hw : w ≤ 1000) : EvN (d + 1) w (xF (xLst ga)) E st := by
  obtain ⟨ds, p, q⟩ := h
  exact ⟨.lst ds, nv_lst p hw, ev_o (o := .lst ds) (eo_lst q (by have := p.len; omega))⟩
theorem nC {v : D} (h : Nv d w v) : EvN d w (xC v) E st := ⟨v, h, ev_C⟩
theorem nV {v : D} {i : Nat} (h : Nv d w v) (hs : st.ρ[i]? = some (.d v)) : EvN d w (xV i) E st := ⟨v, h, ev_V hs⟩
theorem nS_nil : EvNs 0 xNil E st := ⟨[], rfl, fun x h => absurd h List.not_mem_nil, evA_nil⟩
theorem nS_cons (h : EvN d w f E st) (t : EvNs k ga E st) (hd : d ≤ 4 := by decide) (hw : w ≤ 150 := by decide) : EvNs (k + 1) (xCons f ga) E st := by
  obtain ⟨v, a, b⟩ := h
  obtain ⟨ds, l, p, q⟩ := t
  exact ⟨v :: ds, by rw [List.length_cons, l], fun x hx => (List.mem_cons.mp hx).elim (fun e => by rw [e]; exact a.mono hd hw) (p x), evA_cons b q⟩
theorem sSet_nS {K : En} {i : Nat} (h : EvNs k ga E st) (hk : k ≤ 100) (z : ∀ ds : List D, ds.length = k → (∀ x ∈ ds, Nv 4 150 x) → K.nx { st with ρ := st.ρ.set i (.d (.lst ds)) }) : sSet i (xLst ga) E K st := by
  obtain ⟨ds, l, p, q⟩ := h
  exact sSet_eo (eo_lst q (by omega)) (z ds l p)
theorem sSet_nSadd {K : En} {i : Nat} {xs : List D} (hv : st.ρ[i]? = some (.d (.lst xs))) (hl : xs.length ≤ 100) (hp : ∀ x ∈ xs, Nv 4 150 x) (h : EvNs k ga E st) (hk : k ≤ 100) (z : ∀ ds : List D, ds.length = xs.length + k → (∀ x ∈ ds, Nv 4 150 x) → K.nx { st with ρ := st.ρ.set i (.d (.lst ds)) }) : sSet i (xOp addG (xV i) (xF (xLst ga))) E K st := by
  obtain ⟨ds, l, p, q⟩ := h
  refine sSet_eo (o := .lst (xs ++ ds)) (eo_op (ev_V hv) (ev_o (o := .lst ds) (eo_lst q (by omega))) (addL (by omega))) (z (xs ++ ds) (by rw [List.length_append, l]) fun x hx => (List.mem_append.mp hx).elim (hp x) (p x))
theorem sAsg_eo {K : En} {g : Ox} {tg : Tg} {v : D} (h : Eo g E st (.d v)) (k : tg v st K.nx) : sAsg g tg E K st := h _ k
theorem ev_newK : Ev (xF xNewK) E st (.dK []) := fun Q z => xF_go z
theorem ev_powI {i j : Int} {v : Int} (h : powG (.int i) (.int j) = some (.d (.int v))) : Ev (xF (xOp powG (xC (.int i)) (xC (.int j)))) E st (.int v) := ev_od (eo_op ev_C ev_C h)
end
theorem pow20 : powG (.int 10) (.int 20) = some (.d (.int (10 ^ (20 : Int).toNat))) := by
  show (if (decide ((0 : Int) ≤ 20) && decide ((20 : Int) ≤ 1000) && decide ((10 : Int).natAbs < 1000)) = true then some (O.d (.int ((10 : Int) ^ (20 : Int).toNat))) else none) = _
  rw [if_pos (by decide)]
theorem pow59 : powG (.int 10) (.int 59) = some (.d (.int (10 ^ (59 : Int).toNat))) := by
  show (if (decide ((0 : Int) ≤ 59) && decide ((59 : Int) ≤ 1000) && decide ((10 : Int).natAbs < 1000)) = true then some (O.d (.int ((10 : Int) ^ (59 : Int).toNat))) else none) = _
  rw [if_pos (by decide)]
abbrev odds : List D := [.bl true, .bl false, .int 4, .int (-1), .non, .str "", .str "A", .str "a1", .str "abcdefghi", .tup [.int 0], .lst [.int 0], .dK [], .int (10 ^ (20 : Int).toNat), .str " "]
theorem odds_ok : ∀ x ∈ odds, Nv 1 70 x := by
  have h : odds.all (nvC 1 70) = true := by decide +kernel
  rw [List.all_eq_true] at h
  exact fun x hx => nv_of (h x hx)
abbrev qodds : List D := [.non, .bl true, .bl false, .int (-1), .int 99, .int (10 ^ (59 : Int).toNat), .str "", .str "kept", .tup [], .lst [], .dK [], .tup [.str "kept"], .lst [.int 0], .tup [.int 0], .dK [((Sum.inr "look" : Key), .int 0)], .tup [.str "look"]]
abbrev qodds2 : List D := [.tup [.str "look", .int 0, .tup []], .tup [.str "answers", .tup []], .tup [.str "apart", .tup [], .tup []], .str "look"]
theorem qodds_ok : ∀ x ∈ qodds ++ qodds2, Nv 2 200 x := by
  have h : (qodds ++ qodds2).all (nvC 2 200) = true := by decide +kernel
  rw [List.all_eq_true] at h
  exact fun x hx => nv_of (h x hx)
variable {K : PySem.W.Frag} {cs : Cs} {E : EF} {R : List Cell} {Q : O → List Cell → Prop} {n : Nat}
theorem w_qodd (hn : n < 2 ^ 60) (h : ∀ v, Nv 2 200 v → Q (.d v) (.pen (n + 1) :: R)) : m__law_qodd K cs [.cell 0] E (.pen n :: R) Q := by
  unfold m__law_qodd b__law_qodd
  simp only [mk, st0, List.map_cons, List.map_nil, List.cons_append, List.nil_append, List.length_cons, List.length_nil, Nat.reduceSub, Nat.reduceAdd, List.replicate]
  have t0 : ∀ {E : EK} {st : Ps}, Ev (xF (xTup xNil)) E st (.tup []) := ev_od (eo_tup evA_nil (Nat.zero_le _))
  have l0 : ∀ {E : EK} {st : Ps}, Ev (xF (xLst xNil)) E st (.lst []) := ev_o (o := .lst []) (eo_lst evA_nil (Nat.zero_le _))
  have t1 : ∀ {E : EK} {st : Ps} {v : D}, Ev (xF (xTup (xCons (xC v) xNil))) E st (.tup [v]) := ev_od (eo_tup (evA_cons ev_C evA_nil) (by show 1 ≤ 1000; decide))
  have l1 : ∀ {E : EK} {st : Ps} {v : D}, Ev (xF (xLst (xCons (xC v) xNil))) E st (.lst [v]) := fun {E st v} => ev_o (o := .lst [v]) (eo_lst (evA_cons ev_C evA_nil) (by show 1 ≤ 1000; decide))
  have d1 : ∀ {E : EK} {st : Ps}, Ev (xF (xDi false (xC (.str "look")) (xC (.int 0)))) E st (.dK [((Sum.inr "look" : Key), .int 0)]) := fun Q z => xF_go z
  refine seq_go fun N1 h1 => sSet_eo (o := .lst qodds) (eo_lst (evA_cons ev_C (evA_cons ev_C (evA_cons ev_C (evA_cons ev_C (evA_cons ev_C (evA_cons (ev_powI pow59) (evA_cons ev_C (evA_cons ev_C (evA_cons t0 (evA_cons l0 (evA_cons ev_newK (evA_cons t1 (evA_cons l1 (evA_cons t1 (evA_cons d1 (evA_cons t1 evA_nil)))))))))))))))) (by show 16 ≤ 1000; decide)) (h1 _ ?_)
  refine sRetU_go (xF_go (xE_of [.cell 0, .lst (qodds ++ qodds2)] (evA_cons (ev_V rfl) (evA_cons (ev_o (o := .lst (qodds ++ qodds2)) (eo_op (ev_V rfl) (ev_o (o := .lst qodds2) (eo_lst (evA_cons (ev_od (eo_tup (evA_cons ev_C (evA_cons ev_C (evA_cons t0 evA_nil))) (by show 3 ≤ 1000; decide))) (evA_cons (ev_od (eo_tup (evA_cons ev_C (evA_cons t0 evA_nil)) (by show 2 ≤ 1000; decide))) (evA_cons (ev_od (eo_tup (evA_cons ev_C (evA_cons t0 (evA_cons t0 evA_nil))) (by show 3 ≤ 1000; decide))) (evA_cons ev_C evA_nil)))) (by show 4 ≤ 1000; decide))) (addL (by show 16 + 4 ≤ 100000; decide)))) evA_nil)) (fun _ => rfl) rfl (w_pick hn (by simp) (by show 20 < 1000; decide) fun x hx => h x (qodds_ok x hx))))
theorem w_bad {e : D} (he : entB e = true) (hn : n + 5 < 2 ^ 60) (h : ∀ v, Nv 4 150 v → Q (.d v) (.pen (n + 2) :: R)) : m__law_bad K cs [.cell 0, e] E (.pen n :: R) Q := by
  obtain ⟨a, ys, rfl, wa, l1, l3, hc⟩ := ent_cells he
  unfold m__law_bad b__law_bad
  simp only [mk, st0, List.map_cons, List.map_nil, List.cons_append, List.nil_append, List.length_cons, List.length_nil, Nat.reduceSub, Nat.reduceAdd, List.replicate]
  have na := nv_word wa
  have ny := (nv_cels hc).mono (Nat.le_refl _) (show 9 * ys.length ≤ 27 by omega)
  have nt := nv_tup ny (by decide)
  refine seq_go fun N1 h1 => sAsg_eo (v := .tup [.str a, .tup ys]) (eo_u (ev_V rfl)) ⟨rfl, rfl, h1 _ (seq_go fun N2 h2 => sSet_h ?_)⟩
  clear h1
  have t1 : ∀ {E : EK} {st : Ps} {v : D}, Ev (xF (xTup (xCons (xC v) xNil))) E st (.tup [v]) := ev_od (eo_tup (evA_cons ev_C evA_nil) (by show 1 ≤ 1000; decide))
  have l1 : ∀ {E : EK} {st : Ps} {v : D}, Ev (xF (xLst (xCons (xC v) xNil))) E st (.lst [v]) := fun {E st v} => ev_o (o := .lst [v]) (eo_lst (evA_cons ev_C evA_nil) (by show 1 ≤ 1000; decide))
  refine xE_of [.cell 0, .lst odds] (evA_cons (ev_V rfl) (evA_cons (ev_o (o := .lst odds) (eo_lst (evA_cons ev_C (evA_cons ev_C (evA_cons ev_C (evA_cons ev_C (evA_cons ev_C (evA_cons ev_C (evA_cons ev_C (evA_cons ev_C (evA_cons ev_C (evA_cons t1 (evA_cons l1 (evA_cons ev_newK (evA_cons (ev_powI pow20) (evA_cons ev_C evA_nil)))))))))))))) (by show 14 ≤ 1000; decide))) evA_nil)) (fun _ => rfl) rfl ?_
  refine w_pick (by omega) (by simp) (by show 14 < 1000; decide) fun v hv => h2 _ ?_
  clear h2
  have nv := odds_ok v hv
  show sSeq _ _ _ _ ⟨[.d (.cell 0), .d (.tup [.str a, .tup ys]), .d v, .un, .d (.str a), .d (.tup ys)], .pen (n + 1) :: R, true, false⟩
  have T : ∀ {E : EK} {st : Ps}, st.ρ[4]? = some (.d (.str a)) → EvN 0 8 (xV 4) E st := fun hs => nV na hs
  have C : ∀ {E : EK} {st : Ps}, st.ρ[5]? = some (.d (.tup ys)) → EvN 1 27 (xV 5) E st := fun hs => nV nt hs
  have V : ∀ {E : EK} {st : Ps}, st.ρ[2]? = some (.d v) → EvN 1 70 (xV 2) E st := fun hs => nV nv hs
  refine seq_go fun N3 h3 => sSet_nS (nS_cons (nT (d := 2) (w := 8 + 1 + (98 + 1 + 0)) (nA_cons (T rfl) (by decide) (nA_cons (d1 := 2) (w := 98) ?_ (by decide) nA_nil)) (by decide)) (nS_cons (nT (nA_cons (T rfl) (by decide) (nA_cons (nT (nA_cons (V rfl) (Nat.le_refl 1) nA_nil) (by decide)) (Nat.le_refl 2) nA_nil)) (by decide)) (nS_cons (nT (nA_cons (V rfl) (Nat.le_refl 1) (nA_cons (C rfl) (by decide) nA_nil)) (by decide)) (nS_cons (nT (d := 1) (nA_cons (T rfl) (by decide) (nA_cons (d1 := 1) (w := 27) ?_ (by decide) nA_nil)) (by decide)) (nS_cons (nT (d := 1) (nA_cons (T rfl) (by decide) (nA_cons (nT (d := 0) nA_nil (by decide)) (by decide) nA_nil)) (by decide)) nS_nil))))) (by decide) fun ds1 k1 p1 => h3 _ ?_
  · refine ⟨.tup (ys.take 1 ++ [v]), nv_tup (d := 1) (w := 98) ((nvl_app ((ny.take 1).mono (Nat.zero_le 1) (Nat.le_refl _)) (nvl_cons nv nvl_nil)).mono (Nat.le_refl _) (by decide)) (by decide), ev_od (eo_op (d1 := .tup (ys.take 1)) (d2 := .tup [v]) (fun Q z => xF_go (ev_V (d := .tup ys) rfl _ ?_)) (ev_od (eo_tup (evA_cons (ev_V rfl) evA_nil) (by show 1 ≤ 1000; decide))) ?_)⟩
    · show Q (.v (.tup (cutD ys none (some ((1 : Nat) : Int))))) _
      rw [cutD_take]
      exact z
    · show (if (ys.take 1).length + [v].length ≤ sizeLine then some (O.d (.tup (ys.take 1 ++ [v]))) else none) = _
      rw [if_pos (by rw [sizeLine_eq, List.length_take, List.length_singleton]; omega)]
  · exact ⟨.lst ys, nv_lst ny (by decide), ev_o (o := .lst ys) (eo_b1 (ev_V (d := .tup ys) rfl) fun J z => z)⟩
  clear h3
  refine seq_go fun N4 h4 => sSet_nSadd rfl (by omega) p1 (nS_cons (nL (d := 1) (nA_cons (T rfl) (by decide) (nA_cons (C rfl) (by decide) nA_nil)) (by decide)) (nS_cons (nT (d := 1) (w := 8 + 1 + (90 + 1 + 0)) (nA_cons (T rfl) (by decide) (nA_cons (d1 := 1) (w := 90) ?_ (by decide) nA_nil)) (by decide)) (nS_cons (nT (d := 0) (nA_cons (T rfl) (by decide) nA_nil) (by decide)) (nS_cons (nT (d := 1) (nA_cons (T rfl) (by decide) (nA_cons (C rfl) (by decide) (nA_cons (C rfl) (by decide) nA_nil))) (by decide)) nS_nil)))) (by decide) fun ds2 k2 p2 => h4 _ ?_
  · have ap : ∀ (as bs : List D), as.length + bs.length ≤ 1000 → addG (.tup as) (.tup bs) = some (.d (.tup (as ++ bs))) := fun as bs hl => by
      show (if as.length + bs.length ≤ sizeLine then some (O.d (.tup (as ++ bs))) else none) = _
      rw [if_pos (by rw [sizeLine_eq]; omega)]
    refine ⟨.tup (ys ++ ys ++ ys ++ [.int 0]), nv_tup (d := 0) (w := 90) ((nvl_app (nvl_app (nvl_app ny ny) ny) (nvl_cons (nv_of (d := 0) (w := 1) (v := .int 0) (by decide +kernel)) nvl_nil)).mono (Nat.le_refl _) (by decide)) (by decide), ev_od (eo_op (ev_od (eo_op (ev_od (eo_op (ev_V rfl) (ev_V rfl) (ap ys ys (by omega)))) (ev_V rfl) (ap _ _ (by rw [List.length_append]; omega)))) t1 (ap _ _ (by rw [List.length_append, List.length_append, List.length_singleton]; omega)))⟩
  clear h4
  refine seq_go fun N5 h5 => sSet_nSadd rfl (by omega) p2 (nS_cons (nT (d := 1) (nA_cons (C rfl) (by decide) (nA_cons (T rfl) (by decide) nA_nil)) (by decide)) (nS_cons (V rfl) (nS_cons (nT (d := 0) (nA_cons (T rfl) (by decide) (nA_cons (nC (nv_of (d := 0) (w := 1) (by decide +kernel))) (by decide) nA_nil)) (by decide)) nS_nil))) (by decide) fun ds3 k3 p3 => h5 _ ?_
  clear h5
  exact sRetU_go (xF_go (xE_of [.cell 0, .lst ds3] (evA_cons (ev_V rfl) (evA_cons (ev_V rfl) evA_nil)) (fun _ => rfl) rfl (w_pick (by omega) (fun z => by rw [z] at k3; simp at k3) (by omega) fun x hx => h x (p3 x hx))))
end Q
set_option pp.maxSteps 1500
/-! an entry drawn; slots that hold a list of their own or a value -/
namespace Q
open PySem L2 PySem.Spec PyProof.Rows
section
variable {E : EK} {st : Ps} {f : Ex} {ga : Ax} {d : D}
theorem xCons_h {Q : List _root_.Q.R → Ps → Prop} (h : f E st fun r st1 => ga E st1 fun rs st2 => Q (r :: rs) st2) : xCons f ga E st Q := h
theorem xTup_h {Q : O → Ps → Prop} (h : ga E st fun rs st1 => opt (frzs st1 rs) fun q => q.1.length ≤ sizeLine ∧ Q (.d (.tup q.1)) q.2) : xTup ga E st Q := h
theorem xLst_h {Q : O → Ps → Prop} (h : ga E st fun rs st1 => opt (frzs st1 rs) fun q => q.1.length ≤ sizeLine ∧ Q (.lst q.1) q.2) : xLst ga E st Q := h
theorem xE_h {rw : Bool} {np : Nat} {m : MF} {Q : O → Ps → Prop} (h : ga E st fun rs st1 => cE rw np m E st1 rs Q) : xE rw np m ga E st Q := h
theorem xOp_go {g : D → D → Option O} {f1 f2 : Ex} {d1 : D} {Q : O → Ps → Prop} (h1 : Ev f1 E st d1) (h : f2 E st fun r2 st2 => opt (look st2 r2) fun d2 => opt (g d1 d2) fun o => Q o st2) : xOp g f1 f2 E st Q := h1 _ h
theorem xOp_h {g : D → D → Option O} {f1 f2 : Ex} {Q : O → Ps → Prop} (h : f1 E st fun r1 st1 => f2 E st1 fun r2 st2 => opt (look st2 r1) fun d1 => opt (look st2 r2) fun d2 => opt (g d1 d2) fun o => Q o st2) : xOp g f1 f2 E st Q := h
theorem xTO_h {g : Ox} {Q : Bool → Ps → Prop} (h : g E st fun o st1 => opt (isB o) fun b => Q b st1) : xTO g E st Q := h
theorem sIf_h {tt : Tx} {f g : Sx} {En : En} (h : tt E st fun b st' => if b = true then f E En st' else g E En st') : sIf tt f g E En st := h
theorem xAndT_h {t u : Tx} {Q : Bool → Ps → Prop} (h : t E st fun b st1 => if b = true then u E st1 Q else Q false st1) : xAndT t u E st Q := h
end
variable {K : PySem.W.Frag} {cs : Cs} {E : EF} {R : List Cell} {Q : O → List Cell → Prop} {n : Nat}
abbrev titles : List D := [.str "a", .str "item", .str "abcdefgh", .str "p"]
theorem titles_ok : ∀ x ∈ titles, wB x = true := by
  have h : titles.all wB = true := by decide +kernel
  rw [List.all_eq_true] at h
  exact h
theorem w_entry {m : Nat} (hm0 : 0 < m) (hm : m ≤ 4) (hn : n + 20 < 2 ^ 60) (h : ∀ e, entB e = true → ∀ n', n' ≤ n + 11 → Q (.d e) (.pen n' :: R)) : m__law_entry K cs [.cell 0, .int m] E (.pen n :: R) Q := by
  unfold m__law_entry b__law_entry
  simp only [mk, st0, List.map_cons, List.map_nil, List.cons_append, List.nil_append, List.length_cons, List.length_nil, Nat.reduceSub, Nat.reduceAdd, List.replicate]
  refine seq_go fun N1 k1 => sSet_h ?_
  unfold xLc iR1
  refine xCons_h (xF_go (xOp_go ev_C (xF_go (xE_of [.cell 0, .int 3] (evA_cons (ev_V rfl) (evA_cons ev_C evA_nil)) (fun _ => rfl) rfl (w_draw (m := 3) (by omega) (by decide) (by decide) fun j hj => ?_)))))
  refine ⟨⟨by omega, by omega⟩, ?_⟩
  have ej : ((1 : Int) + (j : Int)).toNat = ((1 + j : Nat) : Int).toNat := by omega
  show lcW _ _ _ _ _ (rngD 0 ((1 : Int) + (j : Int)).toNat) [] _
  rw [ej]
  refine lcW_by (fun ds acc st => ∃ (n' : Nat) (o3 : O), (∀ c ∈ acc, celB c = true) ∧ acc.length + ds.length = 1 + j ∧ n' + 3 * ds.length ≤ n + 1 + 3 * (1 + j) ∧ st = ⟨[.d (.cell 0), .d (.int m), .un, o3], .pen n' :: R, true, false⟩) ?_ ?_ _ _ _ ⟨n + 1, .un, fun x hx => absurd hx List.not_mem_nil, by rw [rng_len]; exact Nat.zero_add _, by rw [rng_len]; exact Nat.le_refl _, rfl⟩
  · rintro acc st ⟨n', o3, hc, hl, hn', rfl⟩
    rw [List.length_nil] at hl hn'
    refine k1 _ ?_
    show sRet _ _ _ ⟨[.d (.cell 0), .d (.int m), .d (.lst acc), .un], .pen n' :: R, true, false⟩
    refine sRetU_go (xF_go (xTup_h (xCons_h (xF_go (xE_of [.cell 0, .lst titles] (evA_cons (ev_V rfl) (evA_cons (ev_o (o := .lst titles) (eo_lst (evA_cons ev_C (evA_cons ev_C (evA_cons ev_C (evA_cons ev_C evA_nil)))) (by show 4 ≤ 1000; decide))) evA_nil)) (fun _ => rfl) rfl (w_pick (by omega) (by simp) (by show 4 < 1000; decide) fun x hx => ?_))))))
    refine ev_od (eo_b1 (o := .d (.tup acc)) (ev_V (d := .lst acc) rfl) fun J z => z) _ ?_
    refine ⟨sizeLine_le (show 2 ≤ 100000 by decide), h _ ?_ _ (by omega)⟩
    show entB (.tup [x, .tup acc]) = true
    rw [entB_2, titles_ok x hx, Bool.true_and]
    show ((decide ((1 : Int) ≤ acc.length) && decide ((acc.length : Int) ≤ 3)) && (acc.map celB).all id) = true
    rw [Bool.and_eq_true, Bool.and_eq_true, decide_eq_true_eq, decide_eq_true_eq, List.all_map, List.all_eq_true]
    exact ⟨⟨by omega, by omega⟩, hc⟩
  · rintro d ds acc st ⟨n', o3, hc, hl, hn', rfl⟩ R' hR
    rw [List.length_cons] at hl hn'
    simp only [gN, gT, gsC, gsN, xYes, if_true, true_and, and_true, List.length_cons, List.length_nil, Nat.reduceAdd, Nat.zero_add, List.set_cons_zero, List.set_cons_succ, Ps.wp, wipeO]
    refine xF_go (xE_h (xCons_go' (ev_V (d := .cell 0) rfl) (xCons_h (xF_go (xLst_h (xCons_h (xF_go (xE_of [.cell 0, .int m] (evA_cons (ev_V rfl) (evA_cons (ev_V rfl) evA_nil)) (fun _ => rfl) rfl (w_draw (n := n') (m := m) (by omega) hm0 (by omega) fun c1 hc1 => xCons_h (xF_go (xE_of [.cell 0, .int m] (evA_cons (ev_V rfl) (evA_cons (ev_V rfl) evA_nil)) (fun _ => rfl) rfl (w_draw (n := n' + 1) (m := m) (by omega) hm0 (by omega) fun c2 hc2 => ?_))))))))))))
    refine ⟨sizeLine_le (show 3 ≤ 100000 by decide), ⟨fun _ => rfl, ⟨rfl, ?_⟩⟩⟩
    refine w_pick (n := n' + 2) (xs := [.int c1, .int c2, .str "p"]) (by omega) (by simp) (by show 3 < 1000; decide) fun x hx => ?_
    refine ⟨by rw [sizeLine_eq]; omega, hR _ _ ⟨n' + 3, _, fun y hy => ?_, by rw [List.length_append, List.length_singleton]; omega, by omega, rfl⟩⟩
    rcases List.mem_append.mp hy with hy | hy
    · exact hc y hy
    · rw [List.mem_singleton.mp hy]
      have num : ∀ c : Nat, c < m → celB (.int (c : Int)) = true := fun c hc => by
        show ((decide ((0 : Int) ≤ (c : Int)) && decide ((c : Int) ≤ 3)) || false) = true
        rw [Bool.or_false, Bool.and_eq_true, decide_eq_true_eq, decide_eq_true_eq]
        omega
      simp only [List.mem_cons, List.not_mem_nil, or_false] at hx
      rcases hx with rfl | rfl | rfl
      · exact num c1 hc1
      · exact num c2 hc2
      · show celB (.str "p") = true
        decide +kernel
end Q
set_option pp.maxSteps 1500
/-! slots that hold a list of their own or a value: what reads them; what the law's turn asks of texts -/
namespace Q
open PySem L2 PySem.Spec PyProof.Rows
section
variable {E : EK} {st : Ps} {f f1 f2 : Ex} {d d1 d2 v : D} {o : O} {i : Nat} {xs : List D}
/-- an expression that changes nothing: what came looks like d -/
def Rd (f : Ex) (E : EK) (st : Ps) (d : D) : Prop := ∃ r, look st r = some d ∧ ∀ Q : _root_.Q.R → Ps → Prop, Q r st → f E st Q
theorem rd_ev (h : Ev f E st d) : Rd f E st d := ⟨.v d, rfl, fun Q z => h Q z⟩
def SV (o : O) (v : D) : Prop := o = .d v ∨ ∃ xs, o = .lst xs ∧ v = .lst xs
theorem rd_V (h : st.ρ[i]? = some o) (s : SV o v) : Rd (xV i) E st v := by
  rcases s with rfl | ⟨xs, rfl, rfl⟩
  · exact rd_ev (ev_V h)
  · refine ⟨.ref i, ?_, fun Q z => ?_⟩
    · unfold look
      dsimp only
      rw [h]
      rfl
    · unfold xV
      rw [h]
      exact z
theorem rd_l (h : st.ρ[i]? = some (.lst xs)) : Rd (xV i) E st (.lst xs) := rd_V h (.inr ⟨_, rfl, rfl⟩)
theorem ro_op {gg : D → D → Option O} (h1 : Rd f1 E st d1) (h2 : Rd f2 E st d2) (h : gg d1 d2 = some o) : Eo (xOp gg f1 f2) E st o := fun Q z => by
  obtain ⟨r1, l1, k1⟩ := h1
  obtain ⟨r2, l2, k2⟩ := h2
  exact k1 _ (k2 _ (by simp only [l1, l2, opt, h]; exact z))
theorem ro_b1 {gg : Gc} (h1 : Rd f E st d) (h : ∀ J : O → Prop, J o → gg [d] J) : Eo (xB gg (xCons f xNil)) E st o := fun Q z => by
  obtain ⟨r1, l1, k1⟩ := h1
  refine k1 _ ?_
  show opt (looks st [r1]) _
  simp only [looks, l1, opt]
  exact h _ z
theorem ro_sl {pl ph : Px} {a b : Option Int} (h : Rd f E st d) (hl : ∀ Q : Option Int → Ps → Prop, Q a st → pl E st Q) (hh : ∀ Q : Option Int → Ps → Prop, Q b st → ph E st Q) (e : slD d a b = some o) : Eo (xSl f pl ph) E st o := fun Q z => by
  obtain ⟨r1, l1, k1⟩ := h
  refine k1 _ (hl _ (hh _ ?_))
  simp only [l1, opt, e]
  exact z
theorem pso_V {k : Int} (h : st.ρ[i]? = some (.d (.int k))) (Q : Option Int → Ps → Prop) (z : Q (some k) st) : pSo (xV i) E st Q := ev_V h _ z
theorem pno_V (Q : Option Int → Ps → Prop) (z : Q none st) : pNo E st Q := z
theorem ro_back (h : Rd f E st (.lst xs)) : Eo (xBack f) E st (.lst xs.reverse) := fun Q z => by
  obtain ⟨r1, l1, k1⟩ := h
  refine k1 _ ?_
  simp only [l1, opt]
  exact z
theorem frz_of {r : _root_.Q.R} (h : look st r = some d) : ∃ q, frz st r = some q := by
  cases r with
  | v x => exact ⟨_, rfl⟩
  | ref i =>
    unfold look at h
    unfold frz
    dsimp only at h ⊢
    cases z : st.ρ[i]? with
    | none => rw [z] at h; cases h
    | some o => rw [z] at h; cases o <;> first | (cases h; done) | exact ⟨_, rfl⟩
theorem ro_P2 {m : MF} (h1 : Rd f1 E st d1) (h2 : Rd f2 E st d2) (hs : isSc o = true) (h : ∀ (E' : EF) (Q : O → List Cell → Prop), Q o st.S → m [d1, d2] E' st.S Q) : Eo (xP 2 m (xCons f1 (xCons f2 xNil))) E st o := fun Q z => by
  obtain ⟨r1, l1, k1⟩ := h1
  obtain ⟨r2, l2, k2⟩ := h2
  refine k1 _ (k2 _ ?_)
  show cP 2 m E st [r1, r2] Q
  obtain ⟨q1, e1⟩ := frz_of l1
  obtain ⟨q2, e2⟩ := frz_of (look_frz e1 _ _ l2)
  unfold cP
  simp only [looks, frzs, l1, l2, e1, e2, opt]
  refine ⟨rfl, h _ _ ?_⟩
  rw [if_pos hs]
  exact z
theorem calm_sv (s : SV o v) (n : noC v = true) : calmO o = .d v := by
  rcases s with rfl | ⟨xs, rfl, rfl⟩
  · show (if noC v = true then O.d v else .un) = _
    rw [if_pos n]
  · rw [noC] at n
    show (if noCs xs = true then O.d (.lst xs) else .un) = _
    rw [if_pos n]
theorem sv_l {xs : List D} : SV (.lst xs) (.lst xs) := .inr ⟨_, rfl, rfl⟩
theorem sv_d : SV (.d v) v := .inl rfl
theorem eo_mk {K : PySem.W.Frag} {C : Addr} {np : Nat} {m : MI} {ga : Ax} {ds : List D} {fs : List (Str × D)} (ha : EvA ga E st ds) (hn : ds.length = np) (h : ∀ (x : Addr) (E' : EF) (Q : List (Str × D) → List Cell → Prop), Q fs st.S → m x [] ds E' st.S Q) : Eo (xMk C false np m ga) E st (.d (.ins C fs)) := fun Q z => xMk_of ds ha (fun e => nomatch e) hn fun x => h x _ _ z
end
theorem neS_same (s : Str) : neS (.str s) (.str s) = some (.d (.bl false)) := by
  unfold neS
  simp
theorem cutD_drop {α : Type} (xs : List α) (k : Nat) : cutD xs (some (k : Int)) none = xs.drop k := by
  unfold cutD
  rw [HT.sIx_none, HT.sIx_nat]
  rcases Nat.le_total k xs.length with h | h
  · rw [Nat.min_eq_left h, List.take_of_length_le (by rw [List.length_drop]; omega)]
  · rw [Nat.min_eq_right h, List.drop_of_length_le (Nat.le_refl _), List.drop_of_length_le h, List.take_nil]
theorem reprR_nv {d w : Nat} {xs : List D} (h : Nv d w (.tup xs)) (hd : d ≤ 60) (hw : w ≤ 1300) : ∃ s : Str, ∀ J : O → Prop, J (.d (.str s)) → reprR [.tup xs] J := by
  obtain ⟨p, h0, h1, h2, h3, h4⟩ := h.sh
  refine ⟨p.shown, fun J z => ?_⟩
  show opt (toR (.tup xs)) fun p => showsQ p J
  rw [h0]
  have := PyData.shown_le 70 (by decide) p h3
  exact ⟨h1, by omega, sizeLine_le (by omega), z⟩
theorem due_kind {p t : D} (hl : (sq p).length + (sq t).length ≤ 15) : (errT p t = some .non ∧ dueT p t = .non) ∨ (∃ k : Nat, k ≤ 15 ∧ errT p t = some (.int k) ∧ dueT p t = .int k) ∨ (errT p t = none ∧ dueT p t = .str "right") := by
  unfold dueT
  unfold errT
  by_cases h : (isLT p && isLT t) = false
  · rw [if_pos h]
    exact .inl ⟨rfl, rfl⟩
  · rw [if_neg h]
    cases e : (sq p ++ sq t).findIdx? (fun e => !entB e) with
    | some k =>
      have := (List.findIdx?_eq_some_iff_getElem.mp e).1
      rw [List.length_append] at this
      exact .inr (.inl ⟨k, by omega, rfl, rfl⟩)
    | none =>
      dsimp only
      by_cases g : prm (sq p ++ sq t) = rngI (prm (sq p ++ sq t)).length
      · rw [if_pos g]
        exact .inr (.inr ⟨rfl, rfl⟩)
      · rw [if_neg g]
        exact .inl ⟨rfl, rfl⟩
theorem due_sc {p t : D} (hl : (sq p).length + (sq t).length ≤ 15) : isSc (.d (dueT p t)) = true := by
  rcases due_kind hl with ⟨_, e⟩ | ⟨k, _, _, e⟩ | ⟨_, e⟩ <;> rw [e] <;> rfl
theorem due_repr {p t : D} (hl : (sq p).length + (sq t).length ≤ 15) : ∃ s : Str, ∀ J : O → Prop, J (.d (.str s)) → reprA [dueT p t] J := by
  rcases due_kind hl with ⟨_, e⟩ | ⟨k, hk, _, e⟩ | ⟨_, e⟩ <;> rw [e]
  · exact ⟨"None", fun J z => z⟩
  · refine ⟨toString (k : Int), fun J z => ⟨?_, z⟩⟩
    have : ((k : Int)).natAbs = k := Int.natAbs_natCast k
    rw [this]
    exact Nat.lt_of_le_of_lt (Nat.log2_le_self k) (by omega)
  · refine ⟨reprText "right", fun J z => ⟨?_, z⟩⟩
    rw [sizeLine_eq]
    decide +kernel
theorem due_right {p t : D} (hl : (sq p).length + (sq t).length ≤ 15) : ∃ b : Bool, neG (dueT p t) (.str "right") = some (.d (.bl b)) ∧ (b = false → errT p t = none) := by
  rcases due_kind hl with ⟨_, e⟩ | ⟨k, hk, _, e⟩ | ⟨h, e⟩ <;> rw [e]
  · obtain ⟨x, e1, e2⟩ := neG_clean (n := 0) (by decide) (a := .non) (b := .str "right") (by decide +kernel) (by decide +kernel)
    exact ⟨x, e1, fun z => nomatch (e2.mp z)⟩
  · obtain ⟨x, e1, e2⟩ := neG_clean (n := 0) (by decide) (a := .int (k : Int)) (b := .str "right") rfl (by decide +kernel)
    exact ⟨x, e1, fun z => nomatch (e2.mp z)⟩
  · exact ⟨false, neG_self (n := 0) (by decide) (by decide +kernel), fun _ => h⟩
theorem noL_ent {e : D} (h : entB e = true) : noL e = true := by
  obtain ⟨a, ys, rfl, _, _, _, hc⟩ := ent_cells h
  have hy : ∀ ys : List D, (∀ c ∈ ys, celB c = true) → noLs ys = true := fun ys => by
    induction ys with
    | nil => exact fun _ => rfl
    | cons y ys ih =>
      intro h
      rw [noLs, ih fun c hc => h c (List.mem_cons_of_mem _ hc), Bool.and_true]
      have := cel_pv (h y List.mem_cons_self)
      have g := h y List.mem_cons_self
      cases y <;> first | rfl | (cases g)
  show (true && (noLs ys && true)) = true
  rw [hy ys hc]
  rfl
theorem noLs_ents : ∀ {xs : List D}, EntL xs → noLs xs = true
  | [], _ => rfl
  | x :: xs, h => by rw [noLs, noL_ent (h x List.mem_cons_self), noLs_ents fun e he => h e (List.mem_cons_of_mem _ he)]; rfl
theorem noL_tm {cs : Cs} {p t : D} (hp : EntL (sq p)) (ht : EntL (sq t)) : noL (tmD cs p t) = true := by
  show (noLs (sq p) && (noLs (sq t) && (true && true))) = true
  rw [noLs_ents hp, noLs_ents ht]
  rfl
theorem noC_tm {cs : Cs} {p t : D} (hp : EntL (sq p)) (ht : EntL (sq t)) : noC (tmD cs p t) = true := by
  show (noCs (sq p) && (noCs (sq t) && (true && true))) = true
  rw [(nv_ents hp).nc, (nv_ents ht).nc]
  rfl
end Q
set_option pp.maxSteps 1500
/-! the law's turn by statements: entries drawn and parted, maybe one made bad -/
namespace Q
open PySem L2 PySem.Spec PyProof.Rows
abbrev s0 (K : PySem.W.Frag) (cs : Cs) : Sx := (sSetO 3 (xLc (iR1 (xCons (xF (xE true 2 (m__law_draw) (xCons (xV 1) (xCons (xC (.int 7)) xNil)))) xNil)) (gN 14) xYes (xF (xE true 2 (m__law_entry K cs) (xCons (xV 1) (xCons (xF (xOp addG (xC (.int 1)) (xF (xE true 2 (m__law_draw) (xCons (xV 1) (xCons (xC (.int 4)) xNil)))))) xNil)))) [14]))
abbrev s1 (K : PySem.W.Frag) (cs : Cs) : Sx := (sSet 4 (xE true 2 (m__law_draw) (xCons (xV 1) (xCons (xF (xOp addG (xF (xB lenG (xCons (xV 3) xNil))) (xC (.int 1)))) xNil))))
abbrev s2 (K : PySem.W.Frag) (cs : Cs) : Sx := (sPar2 6 7 (oCons (xSl (xV 3) pNo (pSo (xV 4))) (oCons (xSl (xV 3) (pSo (xV 4)) pNo) oNil)))
abbrev s3 (K : PySem.W.Frag) (cs : Cs) : Sx := (sIf (xAndT (xTO (xOp eqG (xF (xE true 2 (m__law_draw) (xCons (xV 1) (xCons (xC (.int 3)) xNil)))) (xC (.int 0)))) (xTO (xOp neG (xV 3) (xF (xLst xNil))))) (sSeq (sSet 8 (xE true 2 (m__law_draw) (xCons (xV 1) (xCons (xF (xB lenG (xCons (xV 3) xNil))) xNil)))) (sSeq (sLput 3 (xV 8) (xF (xE true 2 (m__law_bad K cs) (xCons (xV 1) (xCons (xF (xOp ixD (xV 3) (xV 8))) xNil))))) (sSeq (sPar2 6 7 (oCons (xSl (xV 3) pNo (pSo (xV 4))) (oCons (xSl (xV 3) (pSo (xV 4)) pNo) oNil))) (sIf (xTO (xOp eqG (xF (xE true 2 (m__law_draw) (xCons (xV 1) (xCons (xC (.int 3)) xNil)))) (xC (.int 0)))) (sSetO 6 (xOp addG (xV 6) (xF (xLst (xCons (xF (xE true 1 (m__law_qodd K cs) (xCons (xV 1) xNil))) xNil))))) sNx)))) sNx)
abbrev s4 (K : PySem.W.Frag) (cs : Cs) : Sx := (sIf (xTO (xOp eqG (xF (xE true 2 (m__law_draw) (xCons (xV 1) (xCons (xC (.int 12)) xNil)))) (xC (.int 0)))) (sAsg (xE true 2 (m__law_pick K cs) (xCons (xV 1) (xCons (xF (xLst (xCons (xF (xTup (xCons (xC .non) (xCons (xV 7) xNil)))) (xCons (xF (xTup (xCons (xV 6) (xCons (xC (.str "a")) xNil)))) (xCons (xF (xTup (xCons (xF xNewK) (xCons (xV 7) xNil)))) (xCons (xF (xTup (xCons (xV 6) (xCons (xC (.int 7)) xNil)))) (xCons (xF (xTup (xCons (xC (.int 7)) (xCons (xF (xLst (xCons (xC .non) xNil))) xNil)))) xNil))))))) xNil))) (gT 2 (gsC (gN 6) (gsC (gN 7) gsN)))) sNx)
abbrev s5 (K : PySem.W.Frag) (cs : Cs) : Sx := (sPar2 9 10 (oCons (xU (xF (xP 2 (m__law_due K cs) (xCons (xV 6) (xCons (xV 7) xNil))))) (oCons (xU (xF (xCalm (xB reprR (xCons (xF (xTup (xCons (xV 6) (xCons (xV 7) xNil)))) xNil))))) oNil)))
abbrev s6 (K : PySem.W.Frag) (cs : Cs) : Sx := (sIf (xOrT (xTO (xOp neS (xF (xB reprA (xCons (xF (xP 2 (m__law_told K cs) (xCons (xV 6) (xCons (xV 7) xNil)))) xNil))) (xF (xB reprA (xCons (xV 9) xNil))))) (xTO (xOp neS (xF (xCalm (xB reprR (xCons (xF (xTup (xCons (xV 6) (xCons (xV 7) xNil)))) xNil)))) (xV 10)))) (sRet (xU (xC (.bl false)))) sNx)
abbrev s7 (K : PySem.W.Frag) (cs : Cs) : Sx := (sIf (xTO (xOp neG (xV 9) (xC (.str "right")))) sCt sNx)
abbrev s8 (K : PySem.W.Frag) (cs : Cs) : Sx := (sPar3 11 12 13 (oCons (xU (xF (xCalm (xMk cs.Template false 2 (i_Template___init__ K cs) (xCons (xV 6) (xCons (xV 7) xNil)))))) (oCons (xU (xF (xB tupG (xCons (xV 6) xNil)))) (oCons (xU (xF (xB tupG (xCons (xV 7) xNil)))) oNil))))
abbrev s9 (K : PySem.W.Frag) (cs : Cs) : Sx := (sIf (xOrT (xTO (xOp neG (xF (xPr cs.Template (false, 1, m_Template_parameters K cs) "parameters" (xV 11))) (xF (xB lenG (xCons (xF (xP 1 (m__law_vused K cs) (xCons (xF (xOp addG (xV 6) (xV 7))) xNil))) xNil))))) (xNotT (xT (xF (xP 2 (m__law_same K cs) (xCons (xV 11) (xCons (xF (xMk cs.Template false 2 (i_Template___init__ K cs) (xCons (xF (xB tupG (xCons (xV 6) xNil))) (xCons (xF (xB tupG (xCons (xV 7) xNil))) xNil)))) xNil))))))) (sRet (xU (xC (.bl false)))) sNx)
abbrev s10 (K : PySem.W.Frag) (cs : Cs) : Sx := (sIf (xOrT (xTO (xOp neG (xF (xP 2 (m__law_same K cs) (xCons (xV 11) (xCons (xF (xMk cs.Template false 2 (i_Template___init__ K cs) (xCons (xF (xOp addG (xV 6) (xV 7))) (xCons (xF (xLst xNil)) xNil)))) xNil)))) (xF (xOp eqG (xV 7) (xF (xLst xNil)))))) (xOrT (xCalmT (xTO (xEqT cs.Template (2, m_Template___eq__ K cs) (xV 11) (xF (xTup (xCons (xV 6) (xCons (xV 7) xNil))))))) (xNotT (xTO (xNeN cs.Template (2, m_Template___eq__ K cs) (xV 11) (xC .non)))))) (sRet (xU (xC (.bl false)))) sNx)
abbrev s11 (K : PySem.W.Frag) (cs : Cs) : Sx := (sSet 5 (xBack (xV 6)))
abbrev s12 (K : PySem.W.Frag) (cs : Cs) : Sx := (sIf (xTO (xOp neG (xF (xP 2 (m__law_same K cs) (xCons (xV 11) (xCons (xF (xCalm (xMk cs.Template false 2 (i_Template___init__ K cs) (xCons (xV 5) (xCons (xV 7) xNil))))) xNil)))) (xF (xOp eqG (xV 5) (xV 6))))) (sRet (xU (xC (.bl false)))) sNx)
abbrev s13 (K : PySem.W.Frag) (cs : Cs) : Sx := (sLclr 6)
abbrev s14 (K : PySem.W.Frag) (cs : Cs) : Sx := (sApp 7 (xC .non))
abbrev s15 (K : PySem.W.Frag) (cs : Cs) : Sx := (sIf (xTO (xOp neS (xF (xB reprR (xCons (xF (xTup (xCons (xF (xPr cs.Template (false, 1, m_Template_put_rows K cs) "put_rows" (xV 11))) (xCons (xF (xPr cs.Template (false, 1, m_Template_taken_rows K cs) "taken_rows" (xV 11))) xNil)))) xNil))) (xF (xB reprR (xCons (xF (xTup (xCons (xV 12) (xCons (xV 13) xNil)))) xNil))))) (sRet (xU (xC (.bl false)))) sNx)
section
variable {E : EK} {st : Ps} {En : En} {i j : Nat} {o o1 o2 o3 : O}
theorem sSetO_h {g : Ox} (h : g E st fun o st' => En.nx { st' with ρ := st'.ρ.set i o }) : sSetO i g E En st := h
theorem sPar2_eo {g1 g2 : Ox} (h1 : Eo g1 E st o1) (h2 : Eo g2 E st o2) (k : En.nx { st with ρ := (st.ρ.set i o1).set j o2 }) : sPar2 i j (oCons g1 (oCons g2 oNil)) E En st := h1 _ (h2 _ k)
theorem xV_ref {P : _root_.Q.R → Ps → Prop} {ys : List D} (h : st.ρ[i]? = some (.lst ys)) (z : P (.ref i) st) : xV i E st P := by
  unfold xV
  rw [h]
  exact z
theorem rd_nil : Rd (xF (xLst xNil)) E st (.lst []) := rd_ev (ev_o (o := .lst []) (eo_lst evA_nil (by show 0 ≤ 1000; decide)))
end
section
variable {E : EK} {ρ : List O} {R : List Cell} {n : Nat}
theorem w_chance {m : Nat} {Q : Bool → Ps → Prop} (h0 : 0 < m) (h1 : m < 1000) (hn : n < 2 ^ 60) (hv : ρ[1]? = some (.d (.cell 0))) (h : ∀ b, Q b ⟨ρ, .pen (n + 1) :: R, true, false⟩) : xTO (xOp eqG (xF (xE true 2 (m__law_draw) (xCons (xV 1) (xCons (xC (.int m)) xNil)))) (xC (.int 0))) E ⟨ρ, .pen n :: R, true, false⟩ Q := by
  refine xTO_h (xOp_h (xF_go (xE_of [.cell 0, .int m] (evA_cons (ev_V hv) (evA_cons ev_C evA_nil)) (fun _ => rfl) rfl (w_draw hn h0 h1 fun k hk => ?_))))
  show opt (eqG (.int k) (.int 0)) fun o => opt (isB o) fun b => Q b _
  rw [eqI]
  exact h _
end
variable {K : PySem.W.Frag} {cs : Cs} {E : EK} {En : En} {rest : Sx} {R : List Cell} {n : Nat} {d0 dt : D} {o3 o4 o5 o6 o7 o8 o9 o10 o11 o12 o13 : O}
theorem w_s0 (hn : n + 100 < 2 ^ 60) (h : ∀ xs : List D, EntL xs → xs.length ≤ 6 → ∀ n', n' ≤ n + 80 → rest E En ⟨[.d d0, .d (.cell 0), .d dt, .lst xs, o4, o5, o6, o7, o8, o9, o10, o11, o12, o13, .un], .pen n' :: R, true, false⟩) : sSeq (s0 K cs) rest E En ⟨[.d d0, .d (.cell 0), .d dt, o3, o4, o5, o6, o7, o8, o9, o10, o11, o12, o13, .un], .pen n :: R, true, false⟩ := by
  refine seq_go fun N h1 => sSetO_h ?_
  unfold xLc iR1
  refine xCons_h (xF_go (xE_of [.cell 0, .int 7] (evA_cons (ev_V rfl) (evA_cons ev_C evA_nil)) (fun _ => rfl) rfl (w_draw (m := 7) (by omega) (by decide) (by decide) fun j hj => ?_)))
  refine ⟨⟨by omega, by omega⟩, ?_⟩
  show lcW _ _ _ _ _ (rngD 0 ((j : Nat) : Int).toNat) [] _
  refine lcW_by (fun ds acc st => ∃ (n' : Nat) (o14 : O), EntL acc ∧ acc.length + ds.length = j ∧ n' + 12 * ds.length ≤ n + 1 + 12 * j ∧ st = ⟨[.d d0, .d (.cell 0), .d dt, o3, o4, o5, o6, o7, o8, o9, o10, o11, o12, o13, o14], .pen n' :: R, true, false⟩) ?_ ?_ _ _ _ ⟨n + 1, .un, fun x hx => absurd hx List.not_mem_nil, by rw [rng_len]; exact Nat.zero_add _, by rw [rng_len]; exact Nat.le_refl _, rfl⟩
  · rintro acc st ⟨n', o14, hc, hl, hn', rfl⟩
    rw [List.length_nil] at hl hn'
    exact h1 _ (h acc hc (by omega) n' (by omega))
  · rintro d ds acc st ⟨n', o14, hc, hl, hn', rfl⟩ R' hR
    rw [List.length_cons] at hl hn'
    simp only [gN, gT, gsC, gsN, xYes, if_true, true_and, and_true, List.length_cons, List.length_nil, Nat.reduceAdd, Nat.zero_add, List.set_cons_zero, List.set_cons_succ, Ps.wp, wipeO]
    refine xF_go (xE_h (xCons_go' (ev_V (d := .cell 0) rfl) (xCons_h (xF_go (xOp_go ev_C (xF_go (xE_of [.cell 0, .int 4] (evA_cons (ev_V rfl) (evA_cons ev_C evA_nil)) (fun _ => rfl) rfl (w_draw (n := n') (m := 4) (by omega) (by decide) (by decide) fun c hc1 => ?_))))))))
    have ej : ((1 : Int) + (c : Int)) = ((1 + c : Nat) : Int) := by omega
    show (true = true → true = true) ∧ ([D.cell 0, .int ((1 : Int) + (c : Int))].length = 2 ∧ m__law_entry K cs [.cell 0, .int ((1 : Int) + (c : Int))] _ _ _)
    rw [ej]
    refine ⟨fun _ => rfl, rfl, w_entry (n := n' + 1) (by omega) (by omega) (by omega) fun e he n2 hn2 => ?_⟩
    refine ⟨by rw [sizeLine_eq]; omega, hR _ _ ⟨n2, _, fun y hy => ?_, by rw [List.length_append, List.length_singleton]; omega, by omega, rfl⟩⟩
    rcases List.mem_append.mp hy with hy | hy
    · exact hc y hy
    · rw [List.mem_singleton.mp hy]
      exact he
variable {xs : List D} {k : Nat}
theorem w_s1 (hl : xs.length ≤ 100) (hn : n < 2 ^ 60) (h : ∀ k : Nat, k ≤ xs.length → rest E En ⟨[.d d0, .d (.cell 0), .d dt, .lst xs, .d (.int (k : Int)), o5, o6, o7, o8, o9, o10, o11, o12, o13, .un], .pen (n + 1) :: R, true, false⟩) : sSeq (s1 K cs) rest E En ⟨[.d d0, .d (.cell 0), .d dt, .lst xs, o4, o5, o6, o7, o8, o9, o10, o11, o12, o13, .un], .pen n :: R, true, false⟩ := by
  refine seq_go fun N h1 => sSet_h (xE_of [.cell 0, .int ((xs.length + 1 : Nat) : Int)] (evA_cons (ev_V rfl) (evA_cons (ev_od (eo_op (ev_od (ro_b1 (rd_l rfl) fun J z => z)) ev_C rfl)) evA_nil)) (fun _ => rfl) rfl (w_draw hn (by omega) (by omega) fun k hk => h1 _ (h k (by omega))))
theorem w_s2 (h : rest E En ⟨[.d d0, .d (.cell 0), .d dt, .lst xs, .d (.int (k : Int)), o5, .lst (xs.take k), .lst (xs.drop k), o8, o9, o10, o11, o12, o13, .un], .pen n :: R, true, false⟩) : sSeq (s2 K cs) rest E En ⟨[.d d0, .d (.cell 0), .d dt, .lst xs, .d (.int (k : Int)), o5, o6, o7, o8, o9, o10, o11, o12, o13, .un], .pen n :: R, true, false⟩ := by
  refine seq_go fun N h1 => sPar2_eo (ro_sl (rd_l rfl) pno_V (pso_V rfl) (by show some (O.lst (cutD xs none (some (k : Int)))) = _; rw [cutD_take])) (ro_sl (rd_l rfl) (pso_V rfl) pno_V (by show some (O.lst (cutD xs (some (k : Int)) none)) = _; rw [cutD_drop])) (h1 _ h)
theorem w_s3 (hx : EntL xs) (hl : xs.length ≤ 6) (hn : n + 20 < 2 ^ 60) (h : ∀ (xs' ps ts : List D) (o8' : O) (n' : Nat), NvL 4 586 ps → NvL 4 385 ts → ps.length + ts.length ≤ 7 → n' ≤ n + 6 → rest E En ⟨[.d d0, .d (.cell 0), .d dt, .lst xs', .d (.int (k : Int)), o5, .lst ps, .lst ts, o8', o9, o10, o11, o12, o13, .un], .pen n' :: R, true, false⟩) :
    sSeq (s3 K cs) rest E En ⟨[.d d0, .d (.cell 0), .d dt, .lst xs, .d (.int (k : Int)), o5, .lst (xs.take k), .lst (xs.drop k), o8, o9, o10, o11, o12, o13, .un], .pen n :: R, true, false⟩ := by
  have nx := (nv_ents hx).mono (show 2 ≤ 4 by decide) (show 39 * xs.length ≤ 234 by omega)
  have lk : ∀ ys : List D, (ys.take k).length + (ys.drop k).length ≤ ys.length := fun ys => by rw [List.length_take, List.length_drop]; omega
  have ok0 : ∀ m, m ≤ n + 6 → rest E En ⟨[.d d0, .d (.cell 0), .d dt, .lst xs, .d (.int (k : Int)), o5, .lst (xs.take k), .lst (xs.drop k), o8, o9, o10, o11, o12, o13, .un], .pen m :: R, true, false⟩ := fun m hm => h xs _ _ _ m ((nx.take k).mono (Nat.le_refl _) (by decide)) ((nx.drop k).mono (Nat.le_refl _) (by decide)) (by have := lk xs; omega) hm
  refine seq_go fun N h1 => sIf_h (xAndT_h (w_chance (m := 3) (by decide) (by decide) (by omega) rfl fun b => ?_))
  cases b with
  | false => exact h1 _ (ok0 _ (by omega))
  | true =>
    obtain ⟨x, e1, e2⟩ := neG_clean (n := 3) (by decide) (a := .lst xs) (b := .lst []) (ents_cleanL hx) (by decide +kernel)
    refine (tv_o (ro_op (rd_l rfl) rd_nil e1)) _ ?_
    cases x with
    | false => exact h1 _ (ok0 _ (by omega))
    | true =>
      have ne : xs ≠ [] := fun z => by
        have := e2.mpr (by rw [z])
        cases this
      have lp := List.length_pos_iff.mpr ne
      refine seq_go fun N2 h2 => sSet_h (xE_of [.cell 0, .int (xs.length : Nat)] (evA_cons (ev_V rfl) (evA_cons (ev_od (ro_b1 (rd_l rfl) fun J z => z)) evA_nil)) (fun _ => rfl) rfl (w_draw (by omega) lp (by omega) fun j hj => h2 _ ?_))
      clear h2
      refine seq_go fun N3 h3 => ?_
      have hj' : xs[j]? = some xs[j] := List.getElem?_eq_getElem hj
      refine xF_go (xE_of [.cell 0, xs[j]] (evA_cons (ev_V rfl) (evA_cons (ev_od (ro_op (rd_l rfl) (rd_ev (ev_V (d := .int (j : Int)) rfl)) (by show (atI xs (j : Int)).map O.d = _; rw [atI_nat hj']; rfl))) evA_nil)) (fun _ => rfl) rfl (w_bad (hx _ (List.getElem_mem hj)) (by omega) fun v nv => ?_))
      show (∃ ys, _) ∧ ((0 : Int) ≤ (j : Int) ∧ (j : Int) < (xs.length : Int) ∧ N3 ⟨[.d d0, .d (.cell 0), .d dt, .lst (xs.set ((j : Nat) : Int).toNat v), .d (.int (k : Int)), o5, .lst (xs.take k), .lst (xs.drop k), .d (.int (j : Int)), o9, o10, o11, o12, o13, .un], .pen (n + 1 + 1 + 2) :: R, true, false⟩)
      refine ⟨⟨xs, rfl⟩, by omega, by omega, h3 _ ?_⟩
      clear h3
      rw [Int.toNat_natCast]
      have ny : NvL 4 385 (xs.set j v) := (nx.set nv j).mono (Nat.le_refl _) (by decide)
      have ly : (xs.set j v).length = xs.length := List.length_set
      generalize xs.set j v = ys at ny ly
      refine seq_go fun N4 h4 => sPar2_eo (ro_sl (rd_l rfl) pno_V (pso_V rfl) (by show some (O.lst (cutD ys none (some (k : Int)))) = _; rw [cutD_take])) (ro_sl (rd_l rfl) (pso_V rfl) pno_V (by show some (O.lst (cutD ys (some (k : Int)) none)) = _; rw [cutD_drop])) (h4 _ ?_)
      clear h4
      have l2 := lk ys
      refine sIf_h (w_chance (m := 3) (by decide) (by decide) (by omega) rfl fun b => ?_)
      cases b with
      | false => exact h1 _ (h ys _ _ _ _ ((ny.take k).mono (Nat.le_refl _) (by decide)) (ny.drop k) (by omega) (by omega))
      | true =>
        refine sSetO_h (xOp_h (xV_ref rfl (xF_go (xLst_h (xCons_h (xF_go (xE_of [.cell 0] (evA_cons (ev_V rfl) evA_nil) (fun _ => rfl) rfl (w_qodd (by omega) fun v2 nv2 => ?_))))))))
        refine ⟨sizeLine_le (show 1 ≤ 100000 by decide), ?_⟩
        show opt (addG (.lst (ys.take k)) (.lst [v2])) fun o => N _
        rw [addL (by rw [List.length_take, List.length_singleton]; omega)]
        exact h1 _ (h ys _ _ _ _ ((nvl_app (ny.take k) (nvl_cons (nv2.mono (show 2 ≤ 4 by decide) (Nat.le_refl _)) nvl_nil)).mono (Nat.le_refl _) (by decide)) (ny.drop k) (by rw [List.length_append, List.length_singleton]; omega) (by omega))
end Q
set_option pp.maxSteps 1500
/-! the law's turn by statements: maybe no lists at all; what is due is told -/
namespace Q
open PySem L2 PySem.Spec PyProof.Rows
section
variable {E : EK} {st : Ps} {En : En} {i j m : Nat} {o o1 o2 o3 : O}
theorem sAsg_h {g : Ox} {tg : Tg} (h : g E st fun o st1 => tg o.toD st1 fun st2 => En.nx st2) : sAsg g tg E En st := h
theorem sPar3_eo {g1 g2 g3 : Ox} (h1 : Eo g1 E st o1) (h2 : Eo g2 E st o2) (h3 : Eo g3 E st o3) (k : En.nx { st with ρ := ((st.ρ.set i o1).set j o2).set m o3 }) : sPar3 i j m (oCons g1 (oCons g2 (oCons g3 oNil))) E En st := h1 _ (h2 _ (h3 _ k))
theorem calm_at' {ρ : List O} {v : D} (h : ρ[i]? = some o) (s : SV o v) (n : noC v = true) : (ρ.map calmO)[i]? = some (.d v) := by
  rw [List.getElem?_map, h]
  show some (calmO o) = _
  rw [calm_sv s n]
end
variable {K : PySem.W.Frag} {cs : Cs} {E : EK} {En : En} {rest : Sx} {R : List Cell} {n : Nat} {d0 dt p t : D} {o3 o4 o5 o6 o7 o8 o9 o10 o11 o12 o13 : O} {ps ts : List D}
structure PT (o6 o7 : O) (p t : D) : Prop where
  s6 : SV o6 p
  s7 : SV o7 t
  np : Nv 5 586 p
  nt : Nv 5 385 t
  hl : (sq p).length + (sq t).length ≤ 15
  ab : (∃ ps ts, o6 = .lst ps ∧ o7 = .lst ts ∧ p = .lst ps ∧ t = .lst ts ∧ ps.length + ts.length ≤ 7) ∨ (isLT p && isLT t) = false
theorem w_s4 (np : NvL 4 586 ps) (nt : NvL 4 385 ts) (hl : ps.length + ts.length ≤ 7) (hn : n + 20 < 2 ^ 60) (h : ∀ (o6' o7' : O) (p t : D) (n' : Nat), PT o6' o7' p t → n' ≤ n + 2 → rest E En ⟨[.d d0, .d (.cell 0), .d dt, o3, o4, o5, o6', o7', o8, o9, o10, o11, o12, o13, .un], .pen n' :: R, true, false⟩) : sSeq (s4 K cs) rest E En ⟨[.d d0, .d (.cell 0), .d dt, o3, o4, o5, .lst ps, .lst ts, o8, o9, o10, o11, o12, o13, .un], .pen n :: R, true, false⟩ := by
  have np' := nv_lst np (by decide)
  have nt' := nv_lst nt (by decide)
  refine seq_go fun N h1 => sIf_h (w_chance (m := 12) (by decide) (by decide) (by omega) rfl fun b => ?_)
  cases b with
  | false => exact h1 _ (h _ _ _ _ _ ⟨sv_l, sv_l, np', nt', by show ps.length + ts.length ≤ 15; omega, .inl ⟨ps, ts, rfl, rfl, rfl, rfl, hl⟩⟩ (by omega))
  | true =>
    refine sAsg_h (xE_h (xCons_go' (ev_V (d := .cell 0) rfl) (xCons_h (xF_go (xLst_h (xCons_h (xF_go (xTup_h (xCons_go' ev_C (xCons_h (xV_ref rfl ?_)))))))))))
    refine ⟨sizeLine_le (show 2 ≤ 100000 by decide), xCons_h (xF_go (xTup_h (xCons_h (xV_ref rfl (xCons_go' ev_C ?_)))))⟩
    refine ⟨sizeLine_le (show 2 ≤ 100000 by decide), xCons_h (xF_go (xTup_h (xCons_go' ev_newK (xCons_go' (ev_V rfl) ?_))))⟩
    refine ⟨sizeLine_le (show 2 ≤ 100000 by decide), xCons_h (xF_go (xTup_h (xCons_go' (ev_V rfl) (xCons_go' ev_C ?_))))⟩
    refine ⟨sizeLine_le (show 2 ≤ 100000 by decide), xCons_h (xF_go (xTup_h (xCons_go' ev_C (xCons_go' (ev_o (o := .lst [.non]) (eo_lst (evA_cons ev_C evA_nil) (by show 1 ≤ 1000; decide))) ?_))))⟩
    refine ⟨sizeLine_le (show 2 ≤ 100000 by decide), ⟨sizeLine_le (show 5 ≤ 100000 by decide), ?_⟩⟩
    refine ⟨fun _ => rfl, rfl, ?_⟩
    refine w_pick (n := n + 1) (xs := [.tup [.non, .lst ts], .tup [.lst ps, .str "a"], .tup [.dK [], .lst ts], .tup [.lst ps, .int 7], .tup [.int 7, .lst [.non]]]) (by omega) (by simp) (by show 5 < 1000; decide) fun x hx => ?_
    have go : ∀ a b : D, Nv 5 586 a → Nv 5 385 b → (sq a).length + (sq b).length ≤ 15 → (isLT a && isLT b) = false → gT 2 (gsC (gN 6) (gsC (gN 7) gsN)) (.tup [a, b]) ⟨[.d d0, .d (.cell 0), .d dt, o3, o4, o5, .d (.lst ps), .d (.lst ts), o8, o9, o10, o11, o12, o13, .un], .pen (n + 1 + 1) :: R, true, false⟩ N := fun a b ha hb hl hi => ⟨rfl, rfl, h1 _ (h _ _ a b _ ⟨sv_d, sv_d, ha, hb, hl, .inr hi⟩ (by omega))⟩
    have n0 : Nv 5 385 (.lst []) := nv_of (by decide +kernel)
    simp only [List.mem_cons, List.not_mem_nil, or_false] at hx
    rcases hx with rfl | rfl | rfl | rfl | rfl
    · exact go _ _ (nv_of (by decide +kernel)) nt' (by show 0 + ts.length ≤ 15; omega) rfl
    · exact go _ _ np' (nv_of (by decide +kernel)) (by show ps.length + 0 ≤ 15; omega) rfl
    · exact go _ _ (nv_of (by decide +kernel)) nt' (by show 0 + ts.length ≤ 15; omega) rfl
    · exact go _ _ np' (nv_of (by decide +kernel)) (by show ps.length + 0 ≤ 15; omega) rfl
    · exact go _ _ (nv_of (by decide +kernel)) (nv_of (by decide +kernel)) (by show 0 + 1 ≤ 15; decide) rfl
variable {s : Str}
theorem PT.shows {p t : D} (g : PT o6 o7 p t) : ∃ s : Str, ∀ J : O → Prop, J (.d (.str s)) → reprR [.tup [p, t]] J := reprR_nv (nv_tup (nvl_cons g.np (nvl_cons g.nt nvl_nil)) (by decide)) (by decide) (by decide)
theorem PT.calm {p t : D} (g : PT o6 o7 p t) {st : Ps} (hr : st.rw = true) (e6 : st.ρ[6]? = some o6) (e7 : st.ρ[7]? = some o7) (hs : ∀ J : O → Prop, J (.d (.str s)) → reprR [.tup [p, t]] J) : Ev (xF (xCalm (xB reprR (xCons (xF (xTup (xCons (xV 6) (xCons (xV 7) xNil)))) xNil)))) E st (.str s) :=
  ev_od (eo_calm hr (eo_b1 (ev_od (eo_tup (evA_cons (ev_V (calm_at' e6 g.s6 g.np.nc)) (evA_cons (ev_V (calm_at' e7 g.s7 g.nt.nc)) evA_nil)) (by show 2 ≤ 1000; decide))) fun J z => hs J z) rfl)
theorem w_s5 (g : PT o6 o7 p t) (hs : ∀ J : O → Prop, J (.d (.str s)) → reprR [.tup [p, t]] J) (h : rest E En ⟨[.d d0, .d (.cell 0), .d dt, o3, o4, o5, o6, o7, o8, .d (dueT p t), .d (.str s), o11, o12, o13, .un], .pen n :: R, true, false⟩) : sSeq (s5 K cs) rest E En ⟨[.d d0, .d (.cell 0), .d dt, o3, o4, o5, o6, o7, o8, o9, o10, o11, o12, o13, .un], .pen n :: R, true, false⟩ := by
  refine seq_go fun N h1 => sPar2_eo (eo_u (ev_od (ro_P2 (rd_V rfl g.s6) (rd_V rfl g.s7) (due_sc g.hl) fun E' Q z => w_due g.np.pv g.nt.pv g.hl z))) (eo_u (g.calm rfl rfl rfl hs)) (h1 _ h)
theorem w_s6 (fk : Fk K cs) (g : PT o6 o7 p t) (hs : ∀ J : O → Prop, J (.d (.str s)) → reprR [.tup [p, t]] J) (h : rest E En ⟨[.d d0, .d (.cell 0), .d dt, o3, o4, o5, o6, o7, o8, .d (dueT p t), .d (.str s), o11, o12, o13, .un], .pen n :: R, true, false⟩) : sSeq (s6 K cs) rest E En ⟨[.d d0, .d (.cell 0), .d dt, o3, o4, o5, o6, o7, o8, .d (dueT p t), .d (.str s), o11, o12, o13, .un], .pen n :: R, true, false⟩ := by
  obtain ⟨s1, hr⟩ := due_repr g.hl
  refine seq_go fun N h1 => sIf_tv (tv_or (tv_o (eo_op (ev_od (eo_b1 (ev_od (ro_P2 (rd_V rfl g.s6) (rd_V rfl g.s7) (due_sc g.hl) fun E' Q z => w_told fk g.np.pv g.nt.pv g.hl z)) fun J z => hr J z)) (ev_od (eo_b1 (ev_V rfl) fun J z => hr J z)) (neS_same s1))) fun _ => tv_o (eo_op (g.calm rfl rfl rfl hs) (ev_V rfl) (neS_same s))) (fun z => nomatch z) fun _ => h1 _ h
theorem w_s7 (g : PT o6 o7 p t) (hc : En.ct ⟨[.d d0, .d (.cell 0), .d dt, o3, o4, o5, o6, o7, o8, .d (dueT p t), o10, o11, o12, o13, .un], .pen n :: R, true, false⟩) (h : ∀ ps ts, o6 = .lst ps → o7 = .lst ts → ps.length + ts.length ≤ 7 → errT (.lst ps) (.lst ts) = none → rest E En ⟨[.d d0, .d (.cell 0), .d dt, o3, o4, o5, .lst ps, .lst ts, o8, .d (dueT p t), o10, o11, o12, o13, .un], .pen n :: R, true, false⟩) : sSeq (s7 K cs) rest E En ⟨[.d d0, .d (.cell 0), .d dt, o3, o4, o5, o6, o7, o8, .d (dueT p t), o10, o11, o12, o13, .un], .pen n :: R, true, false⟩ := by
  obtain ⟨b, e1, e2⟩ := due_right g.hl
  refine seq_go fun N h1 => sIf_tv (tv_o (eo_op (ev_V rfl) ev_C e1)) (fun _ => hc) fun z => h1 _ ?_
  have he := e2 z
  rcases g.ab with ⟨ps, ts, rfl, rfl, rfl, rfl, hl⟩ | hi
  · exact h ps ts rfl rfl hl he
  · obtain ⟨ip, it, _⟩ := errT_none he
    rw [ip, it] at hi
    cases hi
end Q
set_option pp.maxSteps 1500
/-! the law's turn by statements: the template made, its look, others alike -/
namespace Q
open PySem L2 PySem.Spec PyProof.Rows
variable {K : PySem.W.Frag} {cs : Cs} {E : EK} {En : En} {rest : Sx} {R : List Cell} {n : Nat} {d0 dt : D} {o3 o4 o5 o6 o7 o8 o9 o10 o11 o12 o13 : O} {ps ts : List D}
structure TM (ps ts : List D) : Prop where
  he : errT (.lst ps) (.lst ts) = none
  hl : ps.length + ts.length ≤ 7
namespace TM
theorem hx (g : TM ps ts) : EntL (ps ++ ts) := (errT_none g.he).2.2.1
theorem hr (g : TM ps ts) : prm (ps ++ ts) = rngI (prm (ps ++ ts)).length := (errT_none g.he).2.2.2
theorem ep (g : TM ps ts) : EntL ps := ent_left g.hx
theorem et (g : TM ps ts) : EntL ts := ent_right g.hx
theorem np (g : TM ps ts) : NvL 2 273 ps := (nv_ents g.ep).mono (Nat.le_refl _) (by have := g.hl; omega)
theorem nt (g : TM ps ts) : NvL 2 273 ts := (nv_ents g.et).mono (Nat.le_refl _) (by have := g.hl; omega)
end TM
theorem nil_ent : EntL [] := fun x h => absurd h List.not_mem_nil
theorem eo_tm {st : Ps} {E : EK} {ga : Ax} {p t : D} (fk : Fk K cs) (ha : EvA ga E st [p, t]) (kp : Pv p) (kt : Pv t) (hl : (sq p).length + (sq t).length ≤ 15) (he : errT p t = none) : Eo (xMk cs.Template false 2 (i_Template___init__ K cs) ga) E st (.d (tmD cs p t)) :=
  eo_mk (K := K) ha rfl fun x E' Q z => w_tmpl fk kp kt hl (fun d e => by rw [he] at e; cases e) fun _ => z
theorem w_s8 (fk : Fk K cs) (g : TM ps ts) (h : rest E En ⟨[.d d0, .d (.cell 0), .d dt, o3, o4, o5, .lst ps, .lst ts, o8, o9, o10, .d (tmD cs (.lst ps) (.lst ts)), .d (.tup ps), .d (.tup ts), .un], .pen n :: R, true, false⟩) : sSeq (s8 K cs) rest E En ⟨[.d d0, .d (.cell 0), .d dt, o3, o4, o5, .lst ps, .lst ts, o8, o9, o10, o11, o12, o13, .un], .pen n :: R, true, false⟩ := by
  have np := nv_lst g.np (by decide)
  have nt := nv_lst g.nt (by decide)
  refine seq_go fun N h1 => sPar3_eo (eo_u (ev_od (eo_calm rfl (eo_tm fk (evA_cons (ev_V (calm_at' rfl sv_l np.nc)) (evA_cons (ev_V (calm_at' rfl sv_l nt.nc)) evA_nil)) np.pv nt.pv (by have := g.hl; show ps.length + ts.length ≤ 15; omega) g.he) (noL_tm g.ep g.et)))) (eo_u (ev_od (ro_b1 (rd_l rfl) fun J z => z))) (eo_u (ev_od (ro_b1 (rd_l rfl) fun J z => z))) (h1 _ h)
theorem w_s9 (fk : Fk K cs) (g : TM ps ts) (h : rest E En ⟨[.d d0, .d (.cell 0), .d dt, o3, o4, o5, .lst ps, .lst ts, o8, o9, o10, .d (tmD cs (.lst ps) (.lst ts)), o12, o13, .un], .pen n :: R, true, false⟩) : sSeq (s9 K cs) rest E En ⟨[.d d0, .d (.cell 0), .d dt, o3, o4, o5, .lst ps, .lst ts, o8, o9, o10, .d (tmD cs (.lst ps) (.lst ts)), o12, o13, .un], .pen n :: R, true, false⟩ := by
  have np := nv_tup g.np (by decide)
  have nt := nv_tup g.nt (by decide)
  have hl := g.hl
  have e1 : neG (.int ((prm (sq (.lst ps) ++ sq (.lst ts))).length : Nat)) (.int (((prm (ps ++ ts)).map D.int).length : Nat)) = some (.d (.bl false)) := by
    rw [List.length_map, neI]
    show some (O.d (.bl (!decide ((((prm (ps ++ ts)).length : Nat) : Int) = (((prm (ps ++ ts)).length : Nat) : Int))))) = _
    rw [decide_eq_true rfl]
    rfl
  refine seq_go fun N h1 => sIf_tv (tv_or (tv_o (eo_op (ev_od (eo_pr (ev_V rfl) (cls_tm rfl) fun E' Q z => w_many fk z)) (ev_lnL (ev_od (eo_P (evA_cons (ev_o (o := .lst (ps ++ ts)) (ro_op (rd_l rfl) (rd_l rfl) (addL (by omega)))) evA_nil) rfl fun E' Q z => w_vused g.hx (by rw [List.length_append]; omega) z))) e1)) fun _ => tv_not (tv_ev (ev_od (eo_P (evA_cons (ev_V rfl) (evA_cons (ev_od (eo_tm fk (evA_cons (ev_od (ro_b1 (rd_l rfl) fun J z => z)) (evA_cons (ev_od (ro_b1 (rd_l rfl) fun J z => z)) evA_nil)) np.pv nt.pv (by show ps.length + ts.length ≤ 15; omega) g.he)) evA_nil)) rfl fun E' Q z => w_same fk g.ep g.et g.ep g.et (b := true) (by simp [sq]) z)))) (fun z => nomatch z) fun _ => h1 _ h
theorem ne_self (x : Bool) : neG (.bl x) (.bl x) = some (.d (.bl false)) := by cases x <;> rfl
theorem w_s10 (fk : Fk K cs) (g : TM ps ts) (h : rest E En ⟨[.d d0, .d (.cell 0), .d dt, o3, o4, o5, .lst ps, .lst ts, o8, o9, o10, .d (tmD cs (.lst ps) (.lst ts)), o12, o13, .un], .pen n :: R, true, false⟩) : sSeq (s10 K cs) rest E En ⟨[.d d0, .d (.cell 0), .d dt, o3, o4, o5, .lst ps, .lst ts, o8, o9, o10, .d (tmD cs (.lst ps) (.lst ts)), o12, o13, .un], .pen n :: R, true, false⟩ := by
  have np := nv_lst g.np (by decide)
  have nt := nv_lst g.nt (by decide)
  have npt := nv_lst (nvl_app g.np g.nt) (by decide)
  have hl := g.hl
  obtain ⟨x, e1, e2⟩ := eqG_lsts g.et nil_ent
  have hx0 : EntL ((ps ++ ts) ++ []) := by rw [List.append_nil]; exact g.hx
  have he : errT (.lst (ps ++ ts)) (.lst []) = none := errT_right rfl rfl hx0 (by show prm ((ps ++ ts) ++ []) = rngI (prm ((ps ++ ts) ++ [])).length; rw [List.append_nil]; exact g.hr)
  have hb : x = true ↔ sq (.lst ps) = sq (.lst (ps ++ ts)) ∧ sq (.lst ts) = sq (.lst []) := by
    rw [e2]
    show ts = [] ↔ ps = ps ++ ts ∧ ts = []
    constructor
    · rintro rfl
      exact ⟨(List.append_nil _).symm, rfl⟩
    · exact fun z => z.2
  have nil0 : ∀ {E : EK} {st : Ps}, Ev (xF (xLst xNil)) E st (.lst []) := ev_o (o := .lst []) (eo_lst evA_nil (by show 0 ≤ 1000; decide))
  refine seq_go fun N h1 => sIf_tv (tv_or (tv_o (eo_op (ev_od (eo_P (evA_cons (ev_V rfl) (evA_cons (ev_od (eo_tm fk (evA_cons (ev_o (o := .lst (ps ++ ts)) (ro_op (rd_l rfl) (rd_l rfl) (addL (by omega)))) (evA_cons nil0 evA_nil)) npt.pv (nv_lst (d := 0) nvl_nil (by decide)).pv (by show (ps ++ ts).length + 0 ≤ 15; rw [List.length_append]; omega) he)) evA_nil)) rfl fun E' Q z => w_same fk g.ep g.et g.hx nil_ent hb z)) (ev_od (ro_op (rd_l rfl) rd_nil e1)) (ne_self x))) fun _ => tv_or (tv_calm rfl (tv_o (eo_eqT (b := false) (ds := [.lst ps, .lst ts]) (ev_V (calm_at' rfl sv_d (noC_tm g.ep g.et))) (ev_od (eo_tup (evA_cons (ev_V (calm_at' rfl sv_l np.nc)) (evA_cons (ev_V (calm_at' rfl sv_l nt.nc)) evA_nil)) (by show 2 ≤ 1000; decide))) (cls_tm rfl) fun E' Q z => w_eq_tup fk z))) fun _ => tv_not (tv_o (eo_neN (b := false) (ev_V rfl) ev_C (cls_tm rfl) fun E' Q z => w_eq_non fk z))) (fun z => nomatch z) fun _ => h1 _ h
theorem w_s11 (h : rest E En ⟨[.d d0, .d (.cell 0), .d dt, o3, o4, .d (.lst ps.reverse), .lst ps, o7, o8, o9, o10, o11, o12, o13, .un], .pen n :: R, true, false⟩) : sSeq (s11 K cs) rest E En ⟨[.d d0, .d (.cell 0), .d dt, o3, o4, o5, .lst ps, o7, o8, o9, o10, o11, o12, o13, .un], .pen n :: R, true, false⟩ := by
  refine seq_go fun N h1 => sSet_eo (ro_back (rd_l rfl)) (h1 _ h)
theorem w_s12 (fk : Fk K cs) (g : TM ps ts) (h : rest E En ⟨[.d d0, .d (.cell 0), .d dt, o3, o4, .d (.lst ps.reverse), .lst ps, .lst ts, o8, o9, o10, .d (tmD cs (.lst ps) (.lst ts)), o12, o13, .un], .pen n :: R, true, false⟩) : sSeq (s12 K cs) rest E En ⟨[.d d0, .d (.cell 0), .d dt, o3, o4, .d (.lst ps.reverse), .lst ps, .lst ts, o8, o9, o10, .d (tmD cs (.lst ps) (.lst ts)), o12, o13, .un], .pen n :: R, true, false⟩ := by
  have hl := g.hl
  have er : EntL ps.reverse := fun e he => g.ep e (List.mem_reverse.mp he)
  have nr := nv_lst ((nv_ents er).mono (Nat.le_refl _) (show 39 * ps.reverse.length ≤ 273 by rw [List.length_reverse]; omega)) (by decide)
  have nt := nv_lst g.nt (by decide)
  obtain ⟨x, e1, e2⟩ := eqG_lsts er g.ep
  have pm : prm (ps.reverse ++ ts) = prm (ps ++ ts) := prm_perm ((List.reverse_perm ps).append_right ts)
  have hx0 : EntL (ps.reverse ++ ts) := fun e he => (List.mem_append.mp he).elim (er e) (g.et e)
  have he : errT (.lst ps.reverse) (.lst ts) = none := errT_right rfl rfl hx0 (by show prm (ps.reverse ++ ts) = rngI (prm (ps.reverse ++ ts)).length; rw [pm]; exact g.hr)
  have hb : x = true ↔ sq (.lst ps) = sq (.lst ps.reverse) ∧ sq (.lst ts) = sq (.lst ts) := by
    rw [e2]
    exact ⟨fun z => ⟨z.symm, rfl⟩, fun z => z.1.symm⟩
  refine seq_go fun N h1 => sIf_tv (tv_o (eo_op (ev_od (eo_P (evA_cons (ev_V rfl) (evA_cons (ev_od (eo_calm rfl (eo_tm fk (evA_cons (ev_V (calm_at' rfl sv_d nr.nc)) (evA_cons (ev_V (calm_at' rfl sv_l nt.nc)) evA_nil)) nr.pv nt.pv (by show ps.reverse.length + ts.length ≤ 15; rw [List.length_reverse]; omega) he) (noL_tm er g.et))) evA_nil)) rfl fun E' Q z => w_same fk g.ep g.et er g.et hb z)) (ev_od (ro_op (rd_ev (ev_V rfl)) (rd_l rfl) e1)) (ne_self x))) (fun z => nomatch z) fun _ => h1 _ h
theorem w_s13 (h : rest E En ⟨[.d d0, .d (.cell 0), .d dt, o3, o4, o5, .lst [], o7, o8, o9, o10, o11, o12, o13, .un], .pen n :: R, true, false⟩) : sSeq (s13 K cs) rest E En ⟨[.d d0, .d (.cell 0), .d dt, o3, o4, o5, .lst ps, o7, o8, o9, o10, o11, o12, o13, .un], .pen n :: R, true, false⟩ := by
  refine seq_go fun N h1 => ?_
  show N ⟨[.d d0, .d (.cell 0), .d dt, o3, o4, o5, .lst [], o7, o8, o9, o10, o11, o12, o13, .un], .pen n :: R, true, false⟩
  exact h1 _ h
theorem w_s14 (hl : ts.length ≤ 100) (h : rest E En ⟨[.d d0, .d (.cell 0), .d dt, o3, o4, o5, o6, .lst (ts ++ [.non]), o8, o9, o10, o11, o12, o13, .un], .pen n :: R, true, false⟩) : sSeq (s14 K cs) rest E En ⟨[.d d0, .d (.cell 0), .d dt, o3, o4, o5, o6, .lst ts, o8, o9, o10, o11, o12, o13, .un], .pen n :: R, true, false⟩ := by
  refine seq_go fun N h1 => ?_
  show (∃ ys, _) ∧ (ts.length < sizeLine ∧ N ⟨[.d d0, .d (.cell 0), .d dt, o3, o4, o5, o6, .lst (ts ++ [.non]), o8, o9, o10, o11, o12, o13, .un], .pen n :: R, true, false⟩)
  exact ⟨⟨ts, rfl⟩, by rw [sizeLine_eq]; omega, h1 _ h⟩
theorem w_s15 (fk : Fk K cs) (g : TM ps ts) (h : En.nx ⟨[.d d0, .d (.cell 0), .d dt, o3, o4, o5, o6, o7, o8, o9, o10, .d (tmD cs (.lst ps) (.lst ts)), .d (.tup ps), .d (.tup ts), .un], .pen n :: R, true, false⟩) : s15 K cs E En ⟨[.d d0, .d (.cell 0), .d dt, o3, o4, o5, o6, o7, o8, o9, o10, .d (tmD cs (.lst ps) (.lst ts)), .d (.tup ps), .d (.tup ts), .un], .pen n :: R, true, false⟩ := by
  have np := nv_tup g.np (by decide)
  have nt := nv_tup g.nt (by decide)
  obtain ⟨s, hs⟩ := reprR_nv (nv_tup (nvl_cons np (nvl_cons nt nvl_nil)) (by decide)) (by decide) (by decide)
  refine sIf_tv (tv_o (eo_op (ev_od (eo_b1 (ev_od (eo_tup (evA_cons (ev_od (eo_pr (ev_V rfl) (cls_tm rfl) fun E' Q z => w_put fk z)) (evA_cons (ev_od (eo_pr (ev_V rfl) (cls_tm rfl) fun E' Q z => w_taken fk z)) evA_nil)) (by show 2 ≤ 1000; decide))) fun J z => hs J z)) (ev_od (eo_b1 (ev_od (eo_tup (evA_cons (ev_V rfl) (evA_cons (ev_V rfl) evA_nil)) (by show 2 ≤ 1000; decide))) fun J z => hs J z)) (neS_same s))) (fun z => nomatch z) fun _ => h
end Q
set_option pp.maxSteps 1500
/-! the law -/
namespace Q
open PySem L2 PySem.Spec PyProof.Rows
variable {K : PySem.W.Frag} {cs : Cs}
theorem plain_law (fk : Fk K cs) : ∀ d ns, ScrD K d ns → ns.length ≤ 63 → m_law K cs [d] (fun _ _ _ => False) [] fun o _ => o = .d (.bl true) := by
  intro d0 ns hd hl
  unfold m_law b_law
  simp only [mk, st0, List.map_cons, List.map_nil, List.cons_append, List.nil_append, List.length_cons, List.length_nil, Nat.reduceSub, Nat.reduceAdd, List.replicate]
  refine seq_go fun N1 h1 => ?_
  simp only [mk, sRet, sRetN, sSeq, sNx, sIf, sSet, sSetO, sEx, xU, xF, xB, xCons, xNil, xV, xC, xMv, st0, opt, looks, look, frz, frzs, isiG, tyG, clsG, clssG, O.toD, xAnd, xOr, xNot, xIf, xIfO, xT, xTO, xNotT, xAndT, xOrT, xIfT, xYes, xOp, xUn, xTup, xLst, xCh, xLc, xDc, iA, itemsD, gN, gT, gsC, gsN, sFor, sAsg, isB, iiG0, lenG, listG, tupG, leG, ltG, geG, gtG, intG, Ps.wp, wipeO, xP, xE, cP, cE, isSc, List.map_cons, List.map_nil, List.cons_append, List.nil_append, List.length_cons, List.length_nil, List.getElem?_cons_zero, List.getElem?_cons_succ, List.replicate, List.set_cons_zero, List.set_cons_succ, Nat.reduceSub, Nat.reduceAdd, if_true, if_false, Bool.false_eq_true, reduceCtorEq, truD, Bool.not_true, Bool.not_false, Option.map_some, at0, at1, at2, eqI, neI, true_and, and_true, implies_true, ne_eq, not_false_eq_true, Nat.reduceEqDiff, m__law_pen]
  refine ⟨ns, hd, hl, h1 _ (seq_go fun N2 h2 => ?_)⟩
  clear h1
  simp only [sFor, iR1, xCons, xNil, xC, looks, look, opt]
  refine ⟨⟨by omega, by omega⟩, ?_⟩
  refine forW_by (fun ds st => ∃ (n : Nat) (R : List Cell) (o2 o3 o4 o5 o6 o7 o8 o9 o10 o11 o12 o13 : O), ds.length ≤ 24 ∧ n + 100 * ds.length ≤ 5000 ∧ st = ⟨[.d d0, .d (.cell 0), o2, o3, o4, o5, o6, o7, o8, o9, o10, o11, o12, o13, .un], .pen n :: R, true, false⟩) ?_ ?_ _ _ ⟨0, [], _, _, _, _, _, _, _, _, _, _, _, _, by decide, by decide, rfl⟩
  · rintro st ⟨n, R, o2, o3, o4, o5, o6, o7, o8, o9, o10, o11, o12, o13, e1, e2, rfl⟩
    refine h2 _ (sRet_eo (eo_u ev_C) rfl)
  clear h2
  rintro dt ds st ⟨n, R, o2, o3, o4, o5, o6, o7, o8, o9, o10, o11, o12, o13, e1, e2, rfl⟩ N hN
  rw [List.length_cons] at e1 e2
  simp only [gN, gT, gsC, gsN, xYes, if_true, true_and, and_true, List.length_cons, List.length_nil, Nat.reduceAdd, Nat.zero_add, List.set_cons_zero, List.set_cons_succ, Ps.wp, wipeO]
  refine w_s0 (K := K) (cs := cs) (by omega) fun xs hx hxl n1 hn1 => w_s1 (K := K) (cs := cs) (by omega) (by omega) fun k hk => w_s2 (K := K) (cs := cs) (w_s3 (K := K) (cs := cs) hx hxl (by omega) fun xs' ps ts o8' n2 np nt hpt hn2 => w_s4 (K := K) (cs := cs) np nt hpt (by omega) fun o6' o7' p t n3 g hn3 => ?_)
  obtain ⟨s, hs⟩ := g.shows
  refine w_s5 (K := K) (cs := cs) g hs (w_s6 fk g hs (w_s7 (K := K) (cs := cs) g ?_ fun ps ts e6 e7 hpt he => ?_))
  · exact hN _ ⟨n3, R, _, _, _, _, _, _, _, _, _, _, _, _, by omega, by omega, rfl⟩
  have m : TM ps ts := ⟨he, hpt⟩
  refine w_s8 fk m (w_s9 fk m (w_s10 fk m (w_s11 (K := K) (cs := cs) (w_s12 fk m (w_s13 (K := K) (cs := cs) (w_s14 (K := K) (cs := cs) (by omega) (w_s15 fk m ?_)))))))
  exact hN _ ⟨n3, R, _, _, _, _, _, _, _, _, _, _, _, _, by omega, by omega, rfl⟩
end Q
namespace Q
open PySem L2 PySem.Spec PyProof.Rows NdefX LamX
theorem all_mk {l : PySem.W.OpenLaw} {w : World} {K : PySem.W.Frag} {h : Heap} {mg : Str → Option Value} {fa C_InvalidTemplate C_Template a_InvalidTemplate___init__ cc_InvalidTemplate___init__ co_InvalidTemplate___init__ a_is_integer a_is_within a_is_word a_is_list a_is_cell a_is_entry a_parameters_in a_Template___init__ a_Template___eq__ a_Template_put_rows p_Template_put_rows_ a_Template_taken_rows p_Template_taken_rows_ a_Template_parameters p_Template_parameters_ a__law_pen a__law_draw a__law_pick a__law_qint a__law_qodd a__law_vused a__law_is_word_here a__law_is_entry a__law_due a__law_told a__law_entry a__law_bad a__law_same a_law : Addr} {t_MAX_WORD t_MAX_COLUMNS t_MAX_NAMES t_SMALL : Tok} (X : K.In h) (G : h.Ns mainGlobals mg) (hfa : mg "law" = some (.ref fa))
    {od_InvalidTemplate___init__ an_InvalidTemplate___init__ : Option Addr} {sl_InvalidTemplate___init__ : Array (Option Value)} {oc_InvalidTemplate___init__ kV_InvalidTemplate___init__ dc_InvalidTemplate___init__ pm_InvalidTemplate___init__ ct_InvalidTemplate___init__ : Value}
    {ccl_InvalidTemplate___init__ coc_InvalidTemplate___init__ : Value} {ccd_InvalidTemplate___init__ cod_InvalidTemplate___init__ : Option Addr} {ccs_InvalidTemplate___init__ cos_InvalidTemplate___init__ : Array (Option Value)} {vs_InvalidTemplate___init__ : Array Value} {fl_InvalidTemplate___init__ : Str} {tf_InvalidTemplate___init__ : Tok}
    {od_is_integer an_is_integer : Option Addr} {sl_is_integer : Array (Option Value)} {oc_is_integer kV_is_integer dc_is_integer pm_is_integer cd_is_integer ct_is_integer : Value}
    {od_is_within an_is_within : Option Addr} {sl_is_within : Array (Option Value)} {oc_is_within kV_is_within dc_is_within pm_is_within cd_is_within ct_is_within : Value}
    {od_is_word an_is_word : Option Addr} {sl_is_word : Array (Option Value)} {oc_is_word kV_is_word dc_is_word pm_is_word cd_is_word ct_is_word : Value}
    {od_is_list an_is_list : Option Addr} {sl_is_list : Array (Option Value)} {oc_is_list kV_is_list dc_is_list pm_is_list cd_is_list ct_is_list : Value}
    {od_is_cell an_is_cell : Option Addr} {sl_is_cell : Array (Option Value)} {oc_is_cell kV_is_cell dc_is_cell pm_is_cell cd_is_cell ct_is_cell : Value}
    {od_is_entry an_is_entry : Option Addr} {sl_is_entry : Array (Option Value)} {oc_is_entry kV_is_entry dc_is_entry pm_is_entry cd_is_entry ct_is_entry : Value}
    {od_parameters_in an_parameters_in : Option Addr} {sl_parameters_in : Array (Option Value)} {oc_parameters_in kV_parameters_in dc_parameters_in pm_parameters_in cd_parameters_in ct_parameters_in : Value}
    {od_Template___init__ an_Template___init__ : Option Addr} {sl_Template___init__ : Array (Option Value)} {oc_Template___init__ kV_Template___init__ dc_Template___init__ pm_Template___init__ cd_Template___init__ ct_Template___init__ : Value}
    {od_Template___eq__ an_Template___eq__ : Option Addr} {sl_Template___eq__ : Array (Option Value)} {oc_Template___eq__ kV_Template___eq__ dc_Template___eq__ pm_Template___eq__ cd_Template___eq__ ct_Template___eq__ : Value}
    {od_Template_put_rows an_Template_put_rows : Option Addr} {sl_Template_put_rows : Array (Option Value)} {oc_Template_put_rows kV_Template_put_rows dc_Template_put_rows pm_Template_put_rows cd_Template_put_rows ct_Template_put_rows : Value}
    {re_Template_put_rows : List Value}
    {od_Template_taken_rows an_Template_taken_rows : Option Addr} {sl_Template_taken_rows : Array (Option Value)} {oc_Template_taken_rows kV_Template_taken_rows dc_Template_taken_rows pm_Template_taken_rows cd_Template_taken_rows ct_Template_taken_rows : Value}
    {re_Template_taken_rows : List Value}
    {od_Template_parameters an_Template_parameters : Option Addr} {sl_Template_parameters : Array (Option Value)} {oc_Template_parameters kV_Template_parameters dc_Template_parameters pm_Template_parameters cd_Template_parameters ct_Template_parameters : Value}
    {re_Template_parameters : List Value}
    {od__law_pen an__law_pen : Option Addr} {sl__law_pen : Array (Option Value)} {oc__law_pen kV__law_pen dc__law_pen pm__law_pen cd__law_pen ct__law_pen : Value}
    {od__law_draw an__law_draw : Option Addr} {sl__law_draw : Array (Option Value)} {oc__law_draw kV__law_draw dc__law_draw pm__law_draw cd__law_draw ct__law_draw : Value}
    {od__law_pick an__law_pick : Option Addr} {sl__law_pick : Array (Option Value)} {oc__law_pick kV__law_pick dc__law_pick pm__law_pick cd__law_pick ct__law_pick : Value}
    {od__law_qint an__law_qint : Option Addr} {sl__law_qint : Array (Option Value)} {oc__law_qint kV__law_qint dc__law_qint pm__law_qint cd__law_qint ct__law_qint : Value}
    {od__law_qodd an__law_qodd : Option Addr} {sl__law_qodd : Array (Option Value)} {oc__law_qodd kV__law_qodd dc__law_qodd pm__law_qodd cd__law_qodd ct__law_qodd : Value}
    {od__law_vused an__law_vused : Option Addr} {sl__law_vused : Array (Option Value)} {oc__law_vused kV__law_vused dc__law_vused pm__law_vused cd__law_vused ct__law_vused : Value}
    {od__law_is_word_here an__law_is_word_here : Option Addr} {sl__law_is_word_here : Array (Option Value)} {oc__law_is_word_here kV__law_is_word_here dc__law_is_word_here pm__law_is_word_here cd__law_is_word_here ct__law_is_word_here : Value}
    {od__law_is_entry an__law_is_entry : Option Addr} {sl__law_is_entry : Array (Option Value)} {oc__law_is_entry kV__law_is_entry dc__law_is_entry pm__law_is_entry cd__law_is_entry ct__law_is_entry : Value}
    {od__law_due an__law_due : Option Addr} {sl__law_due : Array (Option Value)} {oc__law_due kV__law_due dc__law_due pm__law_due cd__law_due ct__law_due : Value}
    {od__law_told an__law_told : Option Addr} {sl__law_told : Array (Option Value)} {oc__law_told kV__law_told dc__law_told pm__law_told cd__law_told ct__law_told : Value}
    {od__law_entry an__law_entry : Option Addr} {sl__law_entry : Array (Option Value)} {oc__law_entry kV__law_entry dc__law_entry pm__law_entry cd__law_entry ct__law_entry : Value}
    {od__law_bad an__law_bad : Option Addr} {sl__law_bad : Array (Option Value)} {oc__law_bad kV__law_bad dc__law_bad pm__law_bad cd__law_bad ct__law_bad : Value}
    {od__law_same an__law_same : Option Addr} {sl__law_same : Array (Option Value)} {oc__law_same kV__law_same dc__law_same pm__law_same cd__law_same ct__law_same : Value}
    {od_law an_law : Option Addr} {sl_law : Array (Option Value)} {oc_law kV_law dc_law pm_law cd_law ct_law : Value}
    (aC_InvalidTemplate : PySem.W.nsIn K mainGlobals "InvalidTemplate" = some (some (.ref C_InvalidTemplate)))
    (aC_Template : PySem.W.nsIn K mainGlobals "Template" = some (some (.ref C_Template)))
    (pg_Template : PySem.W.plainGet K C_Template Str.empty = true)
    (hd_Template : PySem.W.hasDictIn K C_Template = true)
    (po_Template : PySem.W.plainOver K C_Template = true)
    (sa_Template : PySem.W.findIn K (.ref C_Template) "__setattr__" = some (some (.builtin "object.__setattr__")))
    (n_Template_own_put : PySem.W.findIn K (.ref C_Template) "own_put" = some none)
    (n_Template_own_taken : PySem.W.findIn K (.ref C_Template) "own_taken" = some none)
    (n_Template_many : PySem.W.findIn K (.ref C_Template) "many" = some none)
    (ia_Template : PySem.W.findIn K (.ref C_Template) "__class__" = some (some (.builtin "object.__class__")))
    (im_Template : PySem.W.mroIn K C_Template (.type "object") = some true)
    (io_n : PySem.W.specialIn K (.builtin "object.__class__") "__get__" = some (some (.builtin "getset_descriptor.__get__")))
    (io_t : PySem.W.takesIn K (.builtin "object.__class__") = some true)
    (kk0 : PySem.W.kitOne K (.ref C_Template) (.ref C_Template) = some true)
    (kk1 : PySem.W.kitOne K (.ref C_InvalidTemplate) (.type "ValueError") = some true)
    (kk2 : PySem.W.kitOne K (.type "tuple") (.ref C_Template) = some false)
    (kk3 : PySem.W.kitOne K (.type "NoneType") (.ref C_Template) = some false)
    (h_InvalidTemplate___init__ : PySem.W.findIn K (.ref C_InvalidTemplate) "__init__" = some (some (.ref a_InvalidTemplate___init__)))
    (l_InvalidTemplate___init__ : K.lookup a_InvalidTemplate___init__ = some ⟨oc_InvalidTemplate___init__, od_InvalidTemplate___init__, .func (PySem.W.fnX "__init__" "InvalidTemplate.__init__" (defArgs s_InvalidTemplate___init__) (defBody s_InvalidTemplate___init__) (defScope s_InvalidTemplate___init__) [(("__class__" : Str), cc_InvalidTemplate___init__)] .none kV_InvalidTemplate___init__ dc_InvalidTemplate___init__ pm_InvalidTemplate___init__ an_InvalidTemplate___init__ (.ref co_InvalidTemplate___init__) ct_InvalidTemplate___init__), sl_InvalidTemplate___init__⟩)
    (lc_InvalidTemplate___init__ : K.lookup cc_InvalidTemplate___init__ = some ⟨ccl_InvalidTemplate___init__, ccd_InvalidTemplate___init__, .cell (some (.ref C_InvalidTemplate)), ccs_InvalidTemplate___init__⟩)
    (c_InvalidTemplate___init__ : PySem.W.codeIn K (.ref co_InvalidTemplate___init__) "InvalidTemplate.__init__" = true)
    (k_InvalidTemplate___init__ : PySem.W.keepIn K (.ref a_InvalidTemplate___init__) = true)
    (if_InvalidTemplate___init__ : PySem.W.isFn K (.ref a_InvalidTemplate___init__) = true)
    (ca_InvalidTemplate___init__ : K.lookup co_InvalidTemplate___init__ = some ⟨coc_InvalidTemplate___init__, cod_InvalidTemplate___init__, .fields vs_InvalidTemplate___init__, cos_InvalidTemplate___init__⟩)
    (cb_InvalidTemplate___init__ : vs_InvalidTemplate___init__[2]? = some (.str fl_InvalidTemplate___init__ tf_InvalidTemplate___init__))
    (ce_InvalidTemplate___init__ : ((l.prog.main.file : Str) == fl_InvalidTemplate___init__) = true)
    (tp_InvalidTemplate___init__ : (l.prog.main.scope.names.lookup ("super" : Str)).isSome = false)
    (su_InvalidTemplate___init__ : PySem.W.mroIn K C_InvalidTemplate (.ref C_InvalidTemplate) = some true)
    (op_InvalidTemplate___init__ : PySem.W.nsIn K cStatics "thirdparty.any" = some none)
    (me_InvalidTemplate___init__ : PySem.W.ks_superIn K C_InvalidTemplate C_InvalidTemplate "__init__" = some (some (.builtin "ValueError.__init__")))
    (h_InvalidTemplate___init__ : PySem.W.findIn K (.ref C_InvalidTemplate) "__init__" = some (some (.ref a_InvalidTemplate___init__)))
    (ei_InvalidTemplate : PySem.W.excInitIn K C_InvalidTemplate [.type "ValueError", .type "Exception", .type "BaseException", .type "object"] "ValueError.__new__" = true)
    (eo_InvalidTemplate : PySem.W.excOver K C_InvalidTemplate [.type "ValueError", .type "Exception", .type "BaseException", .type "object"] = true)
    (ed_InvalidTemplate : PySem.W.hasDictIn K C_InvalidTemplate = true)
    (esa_InvalidTemplate : PySem.W.findIn K (.ref C_InvalidTemplate) "__setattr__" = some (some (.builtin "object.__setattr__")))
    (eb_InvalidTemplate : PySem.W.subIn K (.ref C_InvalidTemplate) (.type "BaseException") = some true)
    (es_InvalidTemplate : PySem.W.subIn K (.ref C_InvalidTemplate) (.type "ValueError") = some true)
    (et_InvalidTemplate : PySem.W.typeIn K (.ref C_InvalidTemplate) = some (.type "type"))
    (kc_InvalidTemplate : PySem.W.keepIn K (.ref C_InvalidTemplate) = true)
    (tk_InvalidTemplate_index : PySem.W.takerIn K C_InvalidTemplate "index" = some none)
    (h_is_integer : PySem.W.nsIn K mainGlobals "is_integer" = some (some (.ref a_is_integer)))
    (l_is_integer : K.lookup a_is_integer = some ⟨oc_is_integer, od_is_integer, .func (PySem.W.fnOf "is_integer" "is_integer" (defArgs s_is_integer) (defBody s_is_integer) (defScope s_is_integer) .none kV_is_integer dc_is_integer pm_is_integer an_is_integer cd_is_integer ct_is_integer), sl_is_integer⟩)
    (c_is_integer : PySem.W.codeIn K cd_is_integer "is_integer" = true)
    (k_is_integer : PySem.W.keepIn K (.ref a_is_integer) = true)
    (h_is_within : PySem.W.nsIn K mainGlobals "is_within" = some (some (.ref a_is_within)))
    (l_is_within : K.lookup a_is_within = some ⟨oc_is_within, od_is_within, .func (PySem.W.fnOf "is_within" "is_within" (defArgs s_is_within) (defBody s_is_within) (defScope s_is_within) .none kV_is_within dc_is_within pm_is_within an_is_within cd_is_within ct_is_within), sl_is_within⟩)
    (c_is_within : PySem.W.codeIn K cd_is_within "is_within" = true)
    (k_is_within : PySem.W.keepIn K (.ref a_is_within) = true)
    (h_is_word : PySem.W.nsIn K mainGlobals "is_word" = some (some (.ref a_is_word)))
    (l_is_word : K.lookup a_is_word = some ⟨oc_is_word, od_is_word, .func (PySem.W.fnOf "is_word" "is_word" (defArgs s_is_word) (defBody s_is_word) (defScope s_is_word) .none kV_is_word dc_is_word pm_is_word an_is_word cd_is_word ct_is_word), sl_is_word⟩)
    (c_is_word : PySem.W.codeIn K cd_is_word "is_word" = true)
    (k_is_word : PySem.W.keepIn K (.ref a_is_word) = true)
    (h_is_list : PySem.W.nsIn K mainGlobals "is_list" = some (some (.ref a_is_list)))
    (l_is_list : K.lookup a_is_list = some ⟨oc_is_list, od_is_list, .func (PySem.W.fnOf "is_list" "is_list" (defArgs s_is_list) (defBody s_is_list) (defScope s_is_list) .none kV_is_list dc_is_list pm_is_list an_is_list cd_is_list ct_is_list), sl_is_list⟩)
    (c_is_list : PySem.W.codeIn K cd_is_list "is_list" = true)
    (k_is_list : PySem.W.keepIn K (.ref a_is_list) = true)
    (h_is_cell : PySem.W.nsIn K mainGlobals "is_cell" = some (some (.ref a_is_cell)))
    (l_is_cell : K.lookup a_is_cell = some ⟨oc_is_cell, od_is_cell, .func (PySem.W.fnOf "is_cell" "is_cell" (defArgs s_is_cell) (defBody s_is_cell) (defScope s_is_cell) .none kV_is_cell dc_is_cell pm_is_cell an_is_cell cd_is_cell ct_is_cell), sl_is_cell⟩)
    (c_is_cell : PySem.W.codeIn K cd_is_cell "is_cell" = true)
    (k_is_cell : PySem.W.keepIn K (.ref a_is_cell) = true)
    (h_is_entry : PySem.W.nsIn K mainGlobals "is_entry" = some (some (.ref a_is_entry)))
    (l_is_entry : K.lookup a_is_entry = some ⟨oc_is_entry, od_is_entry, .func (PySem.W.fnOf "is_entry" "is_entry" (defArgs s_is_entry) (defBody s_is_entry) (defScope s_is_entry) .none kV_is_entry dc_is_entry pm_is_entry an_is_entry cd_is_entry ct_is_entry), sl_is_entry⟩)
    (c_is_entry : PySem.W.codeIn K cd_is_entry "is_entry" = true)
    (k_is_entry : PySem.W.keepIn K (.ref a_is_entry) = true)
    (h_parameters_in : PySem.W.nsIn K mainGlobals "parameters_in" = some (some (.ref a_parameters_in)))
    (l_parameters_in : K.lookup a_parameters_in = some ⟨oc_parameters_in, od_parameters_in, .func (PySem.W.fnOf "parameters_in" "parameters_in" (defArgs s_parameters_in) (defBody s_parameters_in) (defScope s_parameters_in) .none kV_parameters_in dc_parameters_in pm_parameters_in an_parameters_in cd_parameters_in ct_parameters_in), sl_parameters_in⟩)
    (c_parameters_in : PySem.W.codeIn K cd_parameters_in "parameters_in" = true)
    (k_parameters_in : PySem.W.keepIn K (.ref a_parameters_in) = true)
    (h_Template___init__ : PySem.W.findIn K (.ref C_Template) "__init__" = some (some (.ref a_Template___init__)))
    (l_Template___init__ : K.lookup a_Template___init__ = some ⟨oc_Template___init__, od_Template___init__, .func (PySem.W.fnOf "__init__" "Template.__init__" (defArgs s_Template___init__) (defBody s_Template___init__) (defScope s_Template___init__) .none kV_Template___init__ dc_Template___init__ pm_Template___init__ an_Template___init__ cd_Template___init__ ct_Template___init__), sl_Template___init__⟩)
    (c_Template___init__ : PySem.W.codeIn K cd_Template___init__ "Template.__init__" = true)
    (k_Template___init__ : PySem.W.keepIn K (.ref a_Template___init__) = true)
    (if_Template___init__ : PySem.W.isFn K (.ref a_Template___init__) = true)
    (mk_Template : PySem.W.makesIn K C_Template = true)
    (kc_Template : PySem.W.keepIn K (.ref C_Template) = true)
    (h_Template___eq__ : PySem.W.findIn K (.ref C_Template) "__eq__" = some (some (.ref a_Template___eq__)))
    (l_Template___eq__ : K.lookup a_Template___eq__ = some ⟨oc_Template___eq__, od_Template___eq__, .func (PySem.W.fnOf "__eq__" "Template.__eq__" (defArgs s_Template___eq__) (defBody s_Template___eq__) (defScope s_Template___eq__) .none kV_Template___eq__ dc_Template___eq__ pm_Template___eq__ an_Template___eq__ cd_Template___eq__ ct_Template___eq__), sl_Template___eq__⟩)
    (c_Template___eq__ : PySem.W.codeIn K cd_Template___eq__ "Template.__eq__" = true)
    (k_Template___eq__ : PySem.W.keepIn K (.ref a_Template___eq__) = true)
    (if_Template___eq__ : PySem.W.isFn K (.ref a_Template___eq__) = true)
    (h_Template_put_rows : PySem.W.findIn K (.ref C_Template) "put_rows" = some (some (.ref p_Template_put_rows_)))
    (pg_Template_put_rows : PySem.W.specialIn K (.ref p_Template_put_rows_) "__get__" = some (some (.builtin "property.__get__")))
    (pt_Template_put_rows : PySem.W.takesIn K (.ref p_Template_put_rows_) = some true)
    (pr_Template_put_rows : PySem.W.recIn K p_Template_put_rows_ "property" = some (.ref a_Template_put_rows :: re_Template_put_rows))
    (l_Template_put_rows : K.lookup a_Template_put_rows = some ⟨oc_Template_put_rows, od_Template_put_rows, .func (PySem.W.fnOf "put_rows" "Template.put_rows" (defArgs s_Template_put_rows) (defBody s_Template_put_rows) (defScope s_Template_put_rows) .none kV_Template_put_rows dc_Template_put_rows pm_Template_put_rows an_Template_put_rows cd_Template_put_rows ct_Template_put_rows), sl_Template_put_rows⟩)
    (c_Template_put_rows : PySem.W.codeIn K cd_Template_put_rows "Template.put_rows" = true)
    (k_Template_put_rows : PySem.W.keepIn K (.ref a_Template_put_rows) = true)
    (h_Template_taken_rows : PySem.W.findIn K (.ref C_Template) "taken_rows" = some (some (.ref p_Template_taken_rows_)))
    (pg_Template_taken_rows : PySem.W.specialIn K (.ref p_Template_taken_rows_) "__get__" = some (some (.builtin "property.__get__")))
    (pt_Template_taken_rows : PySem.W.takesIn K (.ref p_Template_taken_rows_) = some true)
    (pr_Template_taken_rows : PySem.W.recIn K p_Template_taken_rows_ "property" = some (.ref a_Template_taken_rows :: re_Template_taken_rows))
    (l_Template_taken_rows : K.lookup a_Template_taken_rows = some ⟨oc_Template_taken_rows, od_Template_taken_rows, .func (PySem.W.fnOf "taken_rows" "Template.taken_rows" (defArgs s_Template_taken_rows) (defBody s_Template_taken_rows) (defScope s_Template_taken_rows) .none kV_Template_taken_rows dc_Template_taken_rows pm_Template_taken_rows an_Template_taken_rows cd_Template_taken_rows ct_Template_taken_rows), sl_Template_taken_rows⟩)
    (c_Template_taken_rows : PySem.W.codeIn K cd_Template_taken_rows "Template.taken_rows" = true)
    (k_Template_taken_rows : PySem.W.keepIn K (.ref a_Template_taken_rows) = true)
    (h_Template_parameters : PySem.W.findIn K (.ref C_Template) "parameters" = some (some (.ref p_Template_parameters_)))
    (pg_Template_parameters : PySem.W.specialIn K (.ref p_Template_parameters_) "__get__" = some (some (.builtin "property.__get__")))
    (pt_Template_parameters : PySem.W.takesIn K (.ref p_Template_parameters_) = some true)
    (pr_Template_parameters : PySem.W.recIn K p_Template_parameters_ "property" = some (.ref a_Template_parameters :: re_Template_parameters))
    (l_Template_parameters : K.lookup a_Template_parameters = some ⟨oc_Template_parameters, od_Template_parameters, .func (PySem.W.fnOf "parameters" "Template.parameters" (defArgs s_Template_parameters) (defBody s_Template_parameters) (defScope s_Template_parameters) .none kV_Template_parameters dc_Template_parameters pm_Template_parameters an_Template_parameters cd_Template_parameters ct_Template_parameters), sl_Template_parameters⟩)
    (c_Template_parameters : PySem.W.codeIn K cd_Template_parameters "Template.parameters" = true)
    (k_Template_parameters : PySem.W.keepIn K (.ref a_Template_parameters) = true)
    (h__law_pen : PySem.W.nsIn K mainGlobals "_law_pen" = some (some (.ref a__law_pen)))
    (l__law_pen : K.lookup a__law_pen = some ⟨oc__law_pen, od__law_pen, .func (PySem.W.fnOf "_law_pen" "_law_pen" (defArgs s__law_pen) (defBody s__law_pen) (defScope s__law_pen) .none kV__law_pen dc__law_pen pm__law_pen an__law_pen cd__law_pen ct__law_pen), sl__law_pen⟩)
    (c__law_pen : PySem.W.codeIn K cd__law_pen "_law_pen" = true)
    (k__law_pen : PySem.W.keepIn K (.ref a__law_pen) = true)
    (h__law_draw : PySem.W.nsIn K mainGlobals "_law_draw" = some (some (.ref a__law_draw)))
    (l__law_draw : K.lookup a__law_draw = some ⟨oc__law_draw, od__law_draw, .func (PySem.W.fnOf "_law_draw" "_law_draw" (defArgs s__law_draw) (defBody s__law_draw) (defScope s__law_draw) .none kV__law_draw dc__law_draw pm__law_draw an__law_draw cd__law_draw ct__law_draw), sl__law_draw⟩)
    (c__law_draw : PySem.W.codeIn K cd__law_draw "_law_draw" = true)
    (k__law_draw : PySem.W.keepIn K (.ref a__law_draw) = true)
    (h__law_pick : PySem.W.nsIn K mainGlobals "_law_pick" = some (some (.ref a__law_pick)))
    (l__law_pick : K.lookup a__law_pick = some ⟨oc__law_pick, od__law_pick, .func (PySem.W.fnOf "_law_pick" "_law_pick" (defArgs s__law_pick) (defBody s__law_pick) (defScope s__law_pick) .none kV__law_pick dc__law_pick pm__law_pick an__law_pick cd__law_pick ct__law_pick), sl__law_pick⟩)
    (c__law_pick : PySem.W.codeIn K cd__law_pick "_law_pick" = true)
    (k__law_pick : PySem.W.keepIn K (.ref a__law_pick) = true)
    (h__law_qint : PySem.W.nsIn K mainGlobals "_law_qint" = some (some (.ref a__law_qint)))
    (l__law_qint : K.lookup a__law_qint = some ⟨oc__law_qint, od__law_qint, .func (PySem.W.fnOf "_law_qint" "_law_qint" (defArgs s__law_qint) (defBody s__law_qint) (defScope s__law_qint) .none kV__law_qint dc__law_qint pm__law_qint an__law_qint cd__law_qint ct__law_qint), sl__law_qint⟩)
    (c__law_qint : PySem.W.codeIn K cd__law_qint "_law_qint" = true)
    (k__law_qint : PySem.W.keepIn K (.ref a__law_qint) = true)
    (h__law_qodd : PySem.W.nsIn K mainGlobals "_law_qodd" = some (some (.ref a__law_qodd)))
    (l__law_qodd : K.lookup a__law_qodd = some ⟨oc__law_qodd, od__law_qodd, .func (PySem.W.fnOf "_law_qodd" "_law_qodd" (defArgs s__law_qodd) (defBody s__law_qodd) (defScope s__law_qodd) .none kV__law_qodd dc__law_qodd pm__law_qodd an__law_qodd cd__law_qodd ct__law_qodd), sl__law_qodd⟩)
    (c__law_qodd : PySem.W.codeIn K cd__law_qodd "_law_qodd" = true)
    (k__law_qodd : PySem.W.keepIn K (.ref a__law_qodd) = true)
    (h__law_vused : PySem.W.nsIn K mainGlobals "_law_vused" = some (some (.ref a__law_vused)))
    (l__law_vused : K.lookup a__law_vused = some ⟨oc__law_vused, od__law_vused, .func (PySem.W.fnOf "_law_vused" "_law_vused" (defArgs s__law_vused) (defBody s__law_vused) (defScope s__law_vused) .none kV__law_vused dc__law_vused pm__law_vused an__law_vused cd__law_vused ct__law_vused), sl__law_vused⟩)
    (c__law_vused : PySem.W.codeIn K cd__law_vused "_law_vused" = true)
    (k__law_vused : PySem.W.keepIn K (.ref a__law_vused) = true)
    (h__law_is_word_here : PySem.W.nsIn K mainGlobals "_law_is_word_here" = some (some (.ref a__law_is_word_here)))
    (l__law_is_word_here : K.lookup a__law_is_word_here = some ⟨oc__law_is_word_here, od__law_is_word_here, .func (PySem.W.fnOf "_law_is_word_here" "_law_is_word_here" (defArgs s__law_is_word_here) (defBody s__law_is_word_here) (defScope s__law_is_word_here) .none kV__law_is_word_here dc__law_is_word_here pm__law_is_word_here an__law_is_word_here cd__law_is_word_here ct__law_is_word_here), sl__law_is_word_here⟩)
    (c__law_is_word_here : PySem.W.codeIn K cd__law_is_word_here "_law_is_word_here" = true)
    (k__law_is_word_here : PySem.W.keepIn K (.ref a__law_is_word_here) = true)
    (h__law_is_entry : PySem.W.nsIn K mainGlobals "_law_is_entry" = some (some (.ref a__law_is_entry)))
    (l__law_is_entry : K.lookup a__law_is_entry = some ⟨oc__law_is_entry, od__law_is_entry, .func (PySem.W.fnOf "_law_is_entry" "_law_is_entry" (defArgs s__law_is_entry) (defBody s__law_is_entry) (defScope s__law_is_entry) .none kV__law_is_entry dc__law_is_entry pm__law_is_entry an__law_is_entry cd__law_is_entry ct__law_is_entry), sl__law_is_entry⟩)
    (c__law_is_entry : PySem.W.codeIn K cd__law_is_entry "_law_is_entry" = true)
    (k__law_is_entry : PySem.W.keepIn K (.ref a__law_is_entry) = true)
    (h__law_due : PySem.W.nsIn K mainGlobals "_law_due" = some (some (.ref a__law_due)))
    (l__law_due : K.lookup a__law_due = some ⟨oc__law_due, od__law_due, .func (PySem.W.fnOf "_law_due" "_law_due" (defArgs s__law_due) (defBody s__law_due) (defScope s__law_due) .none kV__law_due dc__law_due pm__law_due an__law_due cd__law_due ct__law_due), sl__law_due⟩)
    (c__law_due : PySem.W.codeIn K cd__law_due "_law_due" = true)
    (k__law_due : PySem.W.keepIn K (.ref a__law_due) = true)
    (h__law_told : PySem.W.nsIn K mainGlobals "_law_told" = some (some (.ref a__law_told)))
    (l__law_told : K.lookup a__law_told = some ⟨oc__law_told, od__law_told, .func (PySem.W.fnOf "_law_told" "_law_told" (defArgs s__law_told) (defBody s__law_told) (defScope s__law_told) .none kV__law_told dc__law_told pm__law_told an__law_told cd__law_told ct__law_told), sl__law_told⟩)
    (c__law_told : PySem.W.codeIn K cd__law_told "_law_told" = true)
    (k__law_told : PySem.W.keepIn K (.ref a__law_told) = true)
    (h__law_entry : PySem.W.nsIn K mainGlobals "_law_entry" = some (some (.ref a__law_entry)))
    (l__law_entry : K.lookup a__law_entry = some ⟨oc__law_entry, od__law_entry, .func (PySem.W.fnOf "_law_entry" "_law_entry" (defArgs s__law_entry) (defBody s__law_entry) (defScope s__law_entry) .none kV__law_entry dc__law_entry pm__law_entry an__law_entry cd__law_entry ct__law_entry), sl__law_entry⟩)
    (c__law_entry : PySem.W.codeIn K cd__law_entry "_law_entry" = true)
    (k__law_entry : PySem.W.keepIn K (.ref a__law_entry) = true)
    (h__law_bad : PySem.W.nsIn K mainGlobals "_law_bad" = some (some (.ref a__law_bad)))
    (l__law_bad : K.lookup a__law_bad = some ⟨oc__law_bad, od__law_bad, .func (PySem.W.fnOf "_law_bad" "_law_bad" (defArgs s__law_bad) (defBody s__law_bad) (defScope s__law_bad) .none kV__law_bad dc__law_bad pm__law_bad an__law_bad cd__law_bad ct__law_bad), sl__law_bad⟩)
    (c__law_bad : PySem.W.codeIn K cd__law_bad "_law_bad" = true)
    (k__law_bad : PySem.W.keepIn K (.ref a__law_bad) = true)
    (h__law_same : PySem.W.nsIn K mainGlobals "_law_same" = some (some (.ref a__law_same)))
    (l__law_same : K.lookup a__law_same = some ⟨oc__law_same, od__law_same, .func (PySem.W.fnOf "_law_same" "_law_same" (defArgs s__law_same) (defBody s__law_same) (defScope s__law_same) .none kV__law_same dc__law_same pm__law_same an__law_same cd__law_same ct__law_same), sl__law_same⟩)
    (c__law_same : PySem.W.codeIn K cd__law_same "_law_same" = true)
    (k__law_same : PySem.W.keepIn K (.ref a__law_same) = true)
    (h_law : PySem.W.nsIn K mainGlobals "law" = some (some (.ref a_law)))
    (l_law : K.lookup a_law = some ⟨oc_law, od_law, .func (PySem.W.fnOf "law" "law" (defArgs s_law) (defBody s_law) (defScope s_law) .none kV_law dc_law pm_law an_law cd_law ct_law), sl_law⟩)
    (c_law : PySem.W.codeIn K cd_law "law" = true)
    (k_law : PySem.W.keepIn K (.ref a_law) = true)
    (nn_Template : PySem.W.findIn K (.ref C_Template) "__ne__" = some (some (.builtin "object.__ne__")))
    (nb_Template : PySem.W.subIn K (.ref C_Template) (.type "object") = some true)
    (nz_Template : PySem.W.notFirst K C_Template (.type "NoneType") = true)
    (nt_Template : PySem.W.notFirst K C_Template (.type "tuple") = true)
    (cg_InvalidTemplate : PySem.W.findIn K (.ref C_InvalidTemplate) "__getattribute__" = some (some (.builtin "BaseException.__getattribute__")))
    (cn_InvalidTemplate : PySem.W.findIn K (.ref C_InvalidTemplate) "__getattr__" = some none)
    (ch_InvalidTemplate : PySem.W.findIn K (.ref C_InvalidTemplate) "__class__" = some (some (.builtin "object.__class__")))
    (cm_InvalidTemplate : PySem.W.mroIn K C_InvalidTemplate (.type "object") = some true)
    (cf_InvalidTemplate_index : PySem.W.findIn K (.ref C_InvalidTemplate) "index" = some none)
    (b_isinstance : PySem.W.nsIn K mainGlobals "isinstance" = some none)
    (b_str : PySem.W.nsIn K mainGlobals "str" = some none)
    (b_len : PySem.W.nsIn K mainGlobals "len" = some none)
    (b_all : PySem.W.nsIn K mainGlobals "all" = some none)
    (b_list : PySem.W.nsIn K mainGlobals "list" = some none)
    (b_tuple : PySem.W.nsIn K mainGlobals "tuple" = some none)
    (b_enumerate : PySem.W.nsIn K mainGlobals "enumerate" = some none)
    (b_range : PySem.W.nsIn K mainGlobals "range" = some none)
    (b_int : PySem.W.nsIn K mainGlobals "int" = some none)
    (b_abs : PySem.W.nsIn K mainGlobals "abs" = some none)
    (b_repr : PySem.W.nsIn K mainGlobals "repr" = some none)
    (b_sorted : PySem.W.nsIn K mainGlobals "sorted" = some none)
    (b_set : PySem.W.nsIn K mainGlobals "set" = some none)
    (b_bool : PySem.W.nsIn K mainGlobals "bool" = some none)
    (b_super : PySem.W.nsIn K mainGlobals "super" = some none)
    (b_ValueError : PySem.W.nsIn K mainGlobals "ValueError" = some none)
    (y_MAX_WORD : PySem.W.nsIn K mainGlobals "MAX_WORD" = some (some (.int 8 t_MAX_WORD)))
    (y_MAX_COLUMNS : PySem.W.nsIn K mainGlobals "MAX_COLUMNS" = some (some (.int 3 t_MAX_COLUMNS)))
    (y_MAX_NAMES : PySem.W.nsIn K mainGlobals "MAX_NAMES" = some (some (.int 4 t_MAX_NAMES)))
    (y_SMALL : PySem.W.nsIn K mainGlobals "SMALL" = some (some (.str "abcdefghijklmnopqrstuvwxyz" t_SMALL)))
    (xm_InvalidTemplate_InvalidTemplate : PySem.W.exmOne K (.ref C_InvalidTemplate) (.ref C_InvalidTemplate) = some true)
    : ∃ fd : FuncData, (∀ (s : Shared) (v : Value), BindsTo s fd ⟨[v], []⟩ [("_law_script", v)]) ∧ ∀ base : Heap, K.In base → base.Ns mainGlobals mg → (∃ o, base.get? sysModules = some o) → FnOkG l.prog w K mg base (L2.CX l.prog w) 10 fa fd ["_law_script"] (spLaw K) := by
  have e := hfa.symm.trans (PySem.W.mg_of X G h_law)
  cases e
  have cl_Template : Cls K C_Template := ⟨pg_Template, hd_Template, po_Template, sa_Template⟩
  have F_InvalidTemplate___init__ : FunS K "__init__" "InvalidTemplate.__init__" s_InvalidTemplate___init__ a_InvalidTemplate___init__ _ cc_InvalidTemplate___init__ co_InvalidTemplate___init__ C_InvalidTemplate := ⟨⟨_, _, _, _, _, _, _, _, _, _, _, rfl, l_InvalidTemplate___init__, lc_InvalidTemplate___init__⟩, c_InvalidTemplate___init__, k_InvalidTemplate___init__⟩
  have B_InvalidTemplate___init__ := F_InvalidTemplate___init__.binds (ps := p_InvalidTemplate___init__) fun _ _ _ _ _ us hl => match us, hl with | [_, _], _ => rfl
  have F_is_integer := fun_mk (st := s_is_integer) l_is_integer c_is_integer k_is_integer
  have B_is_integer := F_is_integer.binds (ps := p_is_integer) fun _ _ _ _ _ _ us hl => match us, hl with | [_], _ => rfl
  have F_is_within := fun_mk (st := s_is_within) l_is_within c_is_within k_is_within
  have B_is_within := F_is_within.binds (ps := p_is_within) fun _ _ _ _ _ _ us hl => match us, hl with | [_, _, _], _ => rfl
  have F_is_word := fun_mk (st := s_is_word) l_is_word c_is_word k_is_word
  have B_is_word := F_is_word.binds (ps := p_is_word) fun _ _ _ _ _ _ us hl => match us, hl with | [_], _ => rfl
  have F_is_list := fun_mk (st := s_is_list) l_is_list c_is_list k_is_list
  have B_is_list := F_is_list.binds (ps := p_is_list) fun _ _ _ _ _ _ us hl => match us, hl with | [_], _ => rfl
  have F_is_cell := fun_mk (st := s_is_cell) l_is_cell c_is_cell k_is_cell
  have B_is_cell := F_is_cell.binds (ps := p_is_cell) fun _ _ _ _ _ _ us hl => match us, hl with | [_], _ => rfl
  have F_is_entry := fun_mk (st := s_is_entry) l_is_entry c_is_entry k_is_entry
  have B_is_entry := F_is_entry.binds (ps := p_is_entry) fun _ _ _ _ _ _ us hl => match us, hl with | [_], _ => rfl
  have F_parameters_in := fun_mk (st := s_parameters_in) l_parameters_in c_parameters_in k_parameters_in
  have B_parameters_in := F_parameters_in.binds (ps := p_parameters_in) fun _ _ _ _ _ _ us hl => match us, hl with | [_], _ => rfl
  have F_Template___init__ := fun_mk (st := s_Template___init__) l_Template___init__ c_Template___init__ k_Template___init__
  have B_Template___init__ := F_Template___init__.binds (ps := p_Template___init__) fun _ _ _ _ _ _ us hl => match us, hl with | [_, _, _], _ => rfl
  have F_Template___eq__ := fun_mk (st := s_Template___eq__) l_Template___eq__ c_Template___eq__ k_Template___eq__
  have B_Template___eq__ := F_Template___eq__.binds (ps := p_Template___eq__) fun _ _ _ _ _ _ us hl => match us, hl with | [_, _], _ => rfl
  have F_Template_put_rows := fun_mk (st := s_Template_put_rows) l_Template_put_rows c_Template_put_rows k_Template_put_rows
  have B_Template_put_rows := F_Template_put_rows.binds (ps := p_Template_put_rows) fun _ _ _ _ _ _ us hl => match us, hl with | [_], _ => rfl
  have F_Template_taken_rows := fun_mk (st := s_Template_taken_rows) l_Template_taken_rows c_Template_taken_rows k_Template_taken_rows
  have B_Template_taken_rows := F_Template_taken_rows.binds (ps := p_Template_taken_rows) fun _ _ _ _ _ _ us hl => match us, hl with | [_], _ => rfl
  have F_Template_parameters := fun_mk (st := s_Template_parameters) l_Template_parameters c_Template_parameters k_Template_parameters
  have B_Template_parameters := F_Template_parameters.binds (ps := p_Template_parameters) fun _ _ _ _ _ _ us hl => match us, hl with | [_], _ => rfl
  have F__law_pen := fun_mk (st := s__law_pen) l__law_pen c__law_pen k__law_pen
  have B__law_pen := F__law_pen.binds (ps := p__law_pen) fun _ _ _ _ _ _ us hl => match us, hl with | [_], _ => rfl
  have F__law_draw := fun_mk (st := s__law_draw) l__law_draw c__law_draw k__law_draw
  have B__law_draw := F__law_draw.binds (ps := p__law_draw) fun _ _ _ _ _ _ us hl => match us, hl with | [_, _], _ => rfl
  have F__law_pick := fun_mk (st := s__law_pick) l__law_pick c__law_pick k__law_pick
  have B__law_pick := F__law_pick.binds (ps := p__law_pick) fun _ _ _ _ _ _ us hl => match us, hl with | [_, _], _ => rfl
  have F__law_qint := fun_mk (st := s__law_qint) l__law_qint c__law_qint k__law_qint
  have B__law_qint := F__law_qint.binds (ps := p__law_qint) fun _ _ _ _ _ _ us hl => match us, hl with | [_, _, _], _ => rfl
  have F__law_qodd := fun_mk (st := s__law_qodd) l__law_qodd c__law_qodd k__law_qodd
  have B__law_qodd := F__law_qodd.binds (ps := p__law_qodd) fun _ _ _ _ _ _ us hl => match us, hl with | [_], _ => rfl
  have F__law_vused := fun_mk (st := s__law_vused) l__law_vused c__law_vused k__law_vused
  have B__law_vused := F__law_vused.binds (ps := p__law_vused) fun _ _ _ _ _ _ us hl => match us, hl with | [_], _ => rfl
  have F__law_is_word_here := fun_mk (st := s__law_is_word_here) l__law_is_word_here c__law_is_word_here k__law_is_word_here
  have B__law_is_word_here := F__law_is_word_here.binds (ps := p__law_is_word_here) fun _ _ _ _ _ _ us hl => match us, hl with | [_], _ => rfl
  have F__law_is_entry := fun_mk (st := s__law_is_entry) l__law_is_entry c__law_is_entry k__law_is_entry
  have B__law_is_entry := F__law_is_entry.binds (ps := p__law_is_entry) fun _ _ _ _ _ _ us hl => match us, hl with | [_], _ => rfl
  have F__law_due := fun_mk (st := s__law_due) l__law_due c__law_due k__law_due
  have B__law_due := F__law_due.binds (ps := p__law_due) fun _ _ _ _ _ _ us hl => match us, hl with | [_, _], _ => rfl
  have F__law_told := fun_mk (st := s__law_told) l__law_told c__law_told k__law_told
  have B__law_told := F__law_told.binds (ps := p__law_told) fun _ _ _ _ _ _ us hl => match us, hl with | [_, _], _ => rfl
  have F__law_entry := fun_mk (st := s__law_entry) l__law_entry c__law_entry k__law_entry
  have B__law_entry := F__law_entry.binds (ps := p__law_entry) fun _ _ _ _ _ _ us hl => match us, hl with | [_, _], _ => rfl
  have F__law_bad := fun_mk (st := s__law_bad) l__law_bad c__law_bad k__law_bad
  have B__law_bad := F__law_bad.binds (ps := p__law_bad) fun _ _ _ _ _ _ us hl => match us, hl with | [_, _], _ => rfl
  have F__law_same := fun_mk (st := s__law_same) l__law_same c__law_same k__law_same
  have B__law_same := F__law_same.binds (ps := p__law_same) fun _ _ _ _ _ _ us hl => match us, hl with | [_, _], _ => rfl
  have F_law := fun_mk (st := s_law) l_law c_law k_law
  have B_law := F_law.binds (ps := p_law) fun _ _ _ _ _ _ us hl => match us, hl with | [_], _ => rfl
  have fk : Fk K ⟨C_InvalidTemplate, 0, C_Template, 0⟩ := ⟨⟨cl_Template, n_Template_own_put⟩, ⟨cl_Template, n_Template_own_taken⟩, ⟨cl_Template, n_Template_many⟩, ⟨cl_Template, ia_Template, io_n, io_t, im_Template⟩, kk0, kk1, kk2, kk3, xm_InvalidTemplate_InvalidTemplate⟩
  let A : All l.prog K mg ⟨C_InvalidTemplate, 0, C_Template, 0⟩ := ⟨fk, _, _, _, _, F_InvalidTemplate___init__, ⟨⟨bValue, ei_InvalidTemplate, eo_InvalidTemplate, ed_InvalidTemplate, esa_InvalidTemplate, eb_InvalidTemplate, es_InvalidTemplate, et_InvalidTemplate, kc_InvalidTemplate⟩, h_InvalidTemplate___init__, if_InvalidTemplate___init__, B_InvalidTemplate___init__, PySem.W.mg_of X G aC_InvalidTemplate, ⟨⟨_, _, _, _, _, _, ca_InvalidTemplate___init__, cb_InvalidTemplate___init__, ce_InvalidTemplate___init__⟩, tp_InvalidTemplate___init__, PySem.W.mg_none_of X G b_super, su_InvalidTemplate___init__, op_InvalidTemplate___init__, me_InvalidTemplate___init__⟩, all1 tk_InvalidTemplate_index⟩, _, _, F_is_integer, ⟨PySem.W.mg_of X G h_is_integer, k_is_integer, B_is_integer⟩, _, _, F_is_within, ⟨PySem.W.mg_of X G h_is_within, k_is_within, B_is_within⟩, _, _, F_is_word, ⟨PySem.W.mg_of X G h_is_word, k_is_word, B_is_word⟩, _, _, F_is_list, ⟨PySem.W.mg_of X G h_is_list, k_is_list, B_is_list⟩, _, _, F_is_cell, ⟨PySem.W.mg_of X G h_is_cell, k_is_cell, B_is_cell⟩, _, _, F_is_entry, ⟨PySem.W.mg_of X G h_is_entry, k_is_entry, B_is_entry⟩, _, _, F_parameters_in, ⟨PySem.W.mg_of X G h_parameters_in, k_parameters_in, B_parameters_in⟩, _, _, F_Template___init__, ⟨h_Template___init__, if_Template___init__, k_Template___init__⟩, B_Template___init__, ⟨mk_Template, h_Template___init__, if_Template___init__, kc_Template⟩, _, _, F_Template___eq__, ⟨h_Template___eq__, if_Template___eq__, k_Template___eq__⟩, B_Template___eq__, _, _, F_Template_put_rows, _, ⟨h_Template_put_rows, pg_Template_put_rows, pt_Template_put_rows, _, pr_Template_put_rows⟩, B_Template_put_rows, _, _, F_Template_taken_rows, _, ⟨h_Template_taken_rows, pg_Template_taken_rows, pt_Template_taken_rows, _, pr_Template_taken_rows⟩, B_Template_taken_rows, _, _, F_Template_parameters, _, ⟨h_Template_parameters, pg_Template_parameters, pt_Template_parameters, _, pr_Template_parameters⟩, B_Template_parameters, _, _, F__law_pen, ⟨PySem.W.mg_of X G h__law_pen, k__law_pen, B__law_pen⟩, _, _, F__law_draw, ⟨PySem.W.mg_of X G h__law_draw, k__law_draw, B__law_draw⟩, _, _, F__law_pick, ⟨PySem.W.mg_of X G h__law_pick, k__law_pick, B__law_pick⟩, _, _, F__law_qint, ⟨PySem.W.mg_of X G h__law_qint, k__law_qint, B__law_qint⟩, _, _, F__law_qodd, ⟨PySem.W.mg_of X G h__law_qodd, k__law_qodd, B__law_qodd⟩, _, _, F__law_vused, ⟨PySem.W.mg_of X G h__law_vused, k__law_vused, B__law_vused⟩, _, _, F__law_is_word_here, ⟨PySem.W.mg_of X G h__law_is_word_here, k__law_is_word_here, B__law_is_word_here⟩, _, _, F__law_is_entry, ⟨PySem.W.mg_of X G h__law_is_entry, k__law_is_entry, B__law_is_entry⟩, _, _, F__law_due, ⟨PySem.W.mg_of X G h__law_due, k__law_due, B__law_due⟩, _, _, F__law_told, ⟨PySem.W.mg_of X G h__law_told, k__law_told, B__law_told⟩, _, _, F__law_entry, ⟨PySem.W.mg_of X G h__law_entry, k__law_entry, B__law_entry⟩, _, _, F__law_bad, ⟨PySem.W.mg_of X G h__law_bad, k__law_bad, B__law_bad⟩, _, _, F__law_same, ⟨PySem.W.mg_of X G h__law_same, k__law_same, B__law_same⟩, _, _, F_law, ⟨PySem.W.mg_of X G h_law, k_law, B_law⟩, nn_Template, nb_Template, nz_Template, nt_Template, ⟨⟨cg_InvalidTemplate, cn_InvalidTemplate, eb_InvalidTemplate, ed_InvalidTemplate⟩, ⟨cg_InvalidTemplate, cn_InvalidTemplate, eb_InvalidTemplate, ed_InvalidTemplate, ch_InvalidTemplate, io_n, io_t, cm_InvalidTemplate⟩, all1 cf_InvalidTemplate_index⟩, PySem.W.mg_none_of X G b_isinstance, PySem.W.mg_none_of X G b_str, PySem.W.mg_none_of X G b_len, PySem.W.mg_none_of X G b_all, PySem.W.mg_none_of X G b_list, PySem.W.mg_none_of X G b_tuple, PySem.W.mg_none_of X G b_enumerate, PySem.W.mg_none_of X G b_range, PySem.W.mg_none_of X G b_int, PySem.W.mg_none_of X G b_abs, PySem.W.mg_none_of X G b_repr, PySem.W.mg_none_of X G b_sorted, PySem.W.mg_none_of X G b_set, PySem.W.mg_none_of X G b_bool, PySem.W.mg_none_of X G b_super, PySem.W.mg_none_of X G b_ValueError, ⟨_, PySem.W.mg_of X G y_MAX_WORD⟩, ⟨_, PySem.W.mg_of X G y_MAX_COLUMNS⟩, ⟨_, PySem.W.mg_of X G y_MAX_NAMES⟩, ⟨_, PySem.W.mg_of X G y_SMALL⟩, PySem.W.mg_of X G aC_InvalidTemplate, PySem.W.mg_of X G aC_Template, cl_Template⟩
  exact ⟨_, fun s v => .of_eq rfl, fun base _ _ hsb => (ok_law A hsb).imp fun _ _ _ _ => law_sp (plain_law fk)⟩
end Q
namespace Q
open PySem L2 PySem.Spec PyProof.Rows NdefX LamX
theorem hfacts {w : World} {h : Heap} {mg : Str → Option Value} {fa : Addr} {K : Frg} (X : K.In h) (G : h.Ns mainGlobals mg) (hfa : mg "law" = some (.ref fa)) (c : ckAll K = true) (fv : fvAll K = vlAll) :
    ∃ fd : FuncData, (∀ (s : Shared) (v : Value), BindsTo s fd ⟨[v], []⟩ [("_law_script", v)]) ∧ ∀ base : Heap, K.In base → base.Ns mainGlobals mg → (∃ o, base.get? sysModules = some o) → FnOkG (PySem.Challenge.rw_onlylooks_k73_templates_made).prog w K mg base (L2.CX (PySem.Challenge.rw_onlylooks_k73_templates_made).prog w) 10 fa fd ["_law_script"] (spLaw K) := by
  obtain ⟨c0, c1, c2, c3, c4, c5⟩ := ckAll_ok c
  obtain ⟨aC_InvalidTemplate, aC_Template, pg_Template, hd_Template, po_Template, sa_Template, n_Template_own_put, n_Template_own_taken, n_Template_many, ia_Template, im_Template, io_n, io_t, kk0, kk1, kk2, kk3, h_InvalidTemplate___init__, q1_InvalidTemplate___init__, q2_InvalidTemplate___init__, q3_InvalidTemplate___init__, c_InvalidTemplate___init__, k_InvalidTemplate___init__, if_InvalidTemplate___init__, su_InvalidTemplate___init__, op_InvalidTemplate___init__, me_InvalidTemplate___init__, h_InvalidTemplate___init__, ei_InvalidTemplate, eo_InvalidTemplate⟩ := ck0_ok c0
  obtain ⟨ed_InvalidTemplate, esa_InvalidTemplate, eb_InvalidTemplate, es_InvalidTemplate, et_InvalidTemplate, kc_InvalidTemplate, tk_InvalidTemplate_index, h_is_integer, c_is_integer, k_is_integer, h_is_within, c_is_within, k_is_within, h_is_word, c_is_word, k_is_word, h_is_list, c_is_list, k_is_list, h_is_cell, c_is_cell, k_is_cell, h_is_entry, c_is_entry, k_is_entry, h_parameters_in, c_parameters_in, k_parameters_in, h_Template___init__, c_Template___init__⟩ := ck1_ok c1
  obtain ⟨k_Template___init__, if_Template___init__, mk_Template, kc_Template, h_Template___eq__, c_Template___eq__, k_Template___eq__, if_Template___eq__, h_Template_put_rows, pg_Template_put_rows, pt_Template_put_rows, pr_Template_put_rows, c_Template_put_rows, k_Template_put_rows, h_Template_taken_rows, pg_Template_taken_rows, pt_Template_taken_rows, pr_Template_taken_rows, c_Template_taken_rows, k_Template_taken_rows, h_Template_parameters, pg_Template_parameters, pt_Template_parameters, pr_Template_parameters, c_Template_parameters, k_Template_parameters, h__law_pen, c__law_pen, k__law_pen, h__law_draw⟩ := ck2_ok c2
  obtain ⟨c__law_draw, k__law_draw, h__law_pick, c__law_pick, k__law_pick, h__law_qint, c__law_qint, k__law_qint, h__law_qodd, c__law_qodd, k__law_qodd, h__law_vused, c__law_vused, k__law_vused, h__law_is_word_here, c__law_is_word_here, k__law_is_word_here, h__law_is_entry, c__law_is_entry, k__law_is_entry, h__law_due, c__law_due, k__law_due, h__law_told, c__law_told, k__law_told, h__law_entry, c__law_entry, k__law_entry, h__law_bad⟩ := ck3_ok c3
  obtain ⟨c__law_bad, k__law_bad, h__law_same, c__law_same, k__law_same, h_law, c_law, k_law, nn_Template, nb_Template, nz_Template, nt_Template, cg_InvalidTemplate, cn_InvalidTemplate, ch_InvalidTemplate, cm_InvalidTemplate, cf_InvalidTemplate_index, b_isinstance, b_str, b_len, b_all, b_list, b_tuple, b_enumerate, b_range, b_int, b_abs, b_repr, b_sorted, b_set⟩ := ck4_ok c4
  obtain ⟨b_bool, b_super, b_ValueError, Yy_MAX_WORD, Yy_MAX_COLUMNS, Yy_MAX_NAMES, Yy_SMALL, xm_InvalidTemplate_InvalidTemplate⟩ := ck5_ok c5
  obtain ⟨_, _, _, _, _, _, _, _, _, _, _, l_InvalidTemplate___init__, lc_InvalidTemplate___init__⟩ := sup_ex (at_list fv 0 rfl rfl : fnV K (x_a_InvalidTemplate___init__ K) = superV "__init__" "InvalidTemplate.__init__" s_InvalidTemplate___init__) q1_InvalidTemplate___init__ q2_InvalidTemplate___init__
  obtain ⟨_, _, _, _, _, ca_InvalidTemplate___init__, cb_InvalidTemplate___init__⟩ := file_ex q3_InvalidTemplate___init__
  have ce_InvalidTemplate___init__ : (((PySem.Challenge.rw_onlylooks_k73_templates_made).prog.main.file : Str) == (PySem.Challenge.rw_onlylooks_k73_templates_made).prog.main.file) = true := by simp
  have tp_InvalidTemplate___init__ : ((PySem.Challenge.rw_onlylooks_k73_templates_made).prog.main.scope.names.lookup ("super" : Str)).isSome = false := by first | rfl | decide +kernel
  obtain ⟨_, _, _, _, _, _, _, _, l_is_integer⟩ := fn_ex (at_list fv 1 rfl rfl : fnV K (x_a_is_integer K) = plainV "is_integer" "is_integer" s_is_integer)
  obtain ⟨_, _, _, _, _, _, _, _, l_is_within⟩ := fn_ex (at_list fv 2 rfl rfl : fnV K (x_a_is_within K) = plainV "is_within" "is_within" s_is_within)
  obtain ⟨_, _, _, _, _, _, _, _, l_is_word⟩ := fn_ex (at_list fv 3 rfl rfl : fnV K (x_a_is_word K) = plainV "is_word" "is_word" s_is_word)
  obtain ⟨_, _, _, _, _, _, _, _, l_is_list⟩ := fn_ex (at_list fv 4 rfl rfl : fnV K (x_a_is_list K) = plainV "is_list" "is_list" s_is_list)
  obtain ⟨_, _, _, _, _, _, _, _, l_is_cell⟩ := fn_ex (at_list fv 5 rfl rfl : fnV K (x_a_is_cell K) = plainV "is_cell" "is_cell" s_is_cell)
  obtain ⟨_, _, _, _, _, _, _, _, l_is_entry⟩ := fn_ex (at_list fv 6 rfl rfl : fnV K (x_a_is_entry K) = plainV "is_entry" "is_entry" s_is_entry)
  obtain ⟨_, _, _, _, _, _, _, _, l_parameters_in⟩ := fn_ex (at_list fv 7 rfl rfl : fnV K (x_a_parameters_in K) = plainV "parameters_in" "parameters_in" s_parameters_in)
  obtain ⟨_, _, _, _, _, _, _, _, l_Template___init__⟩ := fn_ex (at_list fv 8 rfl rfl : fnV K (x_a_Template___init__ K) = plainV "__init__" "Template.__init__" s_Template___init__)
  obtain ⟨_, _, _, _, _, _, _, _, l_Template___eq__⟩ := fn_ex (at_list fv 9 rfl rfl : fnV K (x_a_Template___eq__ K) = plainV "__eq__" "Template.__eq__" s_Template___eq__)
  obtain ⟨_, _, _, _, _, _, _, _, l_Template_put_rows⟩ := fn_ex (at_list fv 10 rfl rfl : fnV K (x_a_Template_put_rows K) = plainV "put_rows" "Template.put_rows" s_Template_put_rows)
  obtain ⟨_, _, _, _, _, _, _, _, l_Template_taken_rows⟩ := fn_ex (at_list fv 11 rfl rfl : fnV K (x_a_Template_taken_rows K) = plainV "taken_rows" "Template.taken_rows" s_Template_taken_rows)
  obtain ⟨_, _, _, _, _, _, _, _, l_Template_parameters⟩ := fn_ex (at_list fv 12 rfl rfl : fnV K (x_a_Template_parameters K) = plainV "parameters" "Template.parameters" s_Template_parameters)
  obtain ⟨_, _, _, _, _, _, _, _, l__law_pen⟩ := fn_ex (at_list fv 13 rfl rfl : fnV K (x_a__law_pen K) = plainV "_law_pen" "_law_pen" s__law_pen)
  obtain ⟨_, _, _, _, _, _, _, _, l__law_draw⟩ := fn_ex (at_list fv 14 rfl rfl : fnV K (x_a__law_draw K) = plainV "_law_draw" "_law_draw" s__law_draw)
  obtain ⟨_, _, _, _, _, _, _, _, l__law_pick⟩ := fn_ex (at_list fv 15 rfl rfl : fnV K (x_a__law_pick K) = plainV "_law_pick" "_law_pick" s__law_pick)
  obtain ⟨_, _, _, _, _, _, _, _, l__law_qint⟩ := fn_ex (at_list fv 16 rfl rfl : fnV K (x_a__law_qint K) = plainV "_law_qint" "_law_qint" s__law_qint)
  obtain ⟨_, _, _, _, _, _, _, _, l__law_qodd⟩ := fn_ex (at_list fv 17 rfl rfl : fnV K (x_a__law_qodd K) = plainV "_law_qodd" "_law_qodd" s__law_qodd)
  obtain ⟨_, _, _, _, _, _, _, _, l__law_vused⟩ := fn_ex (at_list fv 18 rfl rfl : fnV K (x_a__law_vused K) = plainV "_law_vused" "_law_vused" s__law_vused)
  obtain ⟨_, _, _, _, _, _, _, _, l__law_is_word_here⟩ := fn_ex (at_list fv 19 rfl rfl : fnV K (x_a__law_is_word_here K) = plainV "_law_is_word_here" "_law_is_word_here" s__law_is_word_here)
  obtain ⟨_, _, _, _, _, _, _, _, l__law_is_entry⟩ := fn_ex (at_list fv 20 rfl rfl : fnV K (x_a__law_is_entry K) = plainV "_law_is_entry" "_law_is_entry" s__law_is_entry)
  obtain ⟨_, _, _, _, _, _, _, _, l__law_due⟩ := fn_ex (at_list fv 21 rfl rfl : fnV K (x_a__law_due K) = plainV "_law_due" "_law_due" s__law_due)
  obtain ⟨_, _, _, _, _, _, _, _, l__law_told⟩ := fn_ex (at_list fv 22 rfl rfl : fnV K (x_a__law_told K) = plainV "_law_told" "_law_told" s__law_told)
  obtain ⟨_, _, _, _, _, _, _, _, l__law_entry⟩ := fn_ex (at_list fv 23 rfl rfl : fnV K (x_a__law_entry K) = plainV "_law_entry" "_law_entry" s__law_entry)
  obtain ⟨_, _, _, _, _, _, _, _, l__law_bad⟩ := fn_ex (at_list fv 24 rfl rfl : fnV K (x_a__law_bad K) = plainV "_law_bad" "_law_bad" s__law_bad)
  obtain ⟨_, _, _, _, _, _, _, _, l__law_same⟩ := fn_ex (at_list fv 25 rfl rfl : fnV K (x_a__law_same K) = plainV "_law_same" "_law_same" s__law_same)
  obtain ⟨_, _, _, _, _, _, _, _, l_law⟩ := fn_ex (at_list fv 26 rfl rfl : fnV K (x_a_law K) = plainV "law" "law" s_law)
  obtain ⟨_, y_MAX_WORD⟩ := int_ex Yy_MAX_WORD
  obtain ⟨_, y_MAX_COLUMNS⟩ := int_ex Yy_MAX_COLUMNS
  obtain ⟨_, y_MAX_NAMES⟩ := int_ex Yy_MAX_NAMES
  obtain ⟨_, y_SMALL⟩ := str_ex Yy_SMALL
  exact all_mk (l := PySem.Challenge.rw_onlylooks_k73_templates_made) (w := w) X G hfa aC_InvalidTemplate aC_Template pg_Template hd_Template po_Template sa_Template n_Template_own_put n_Template_own_taken n_Template_many ia_Template im_Template io_n io_t kk0 kk1 kk2 kk3 h_InvalidTemplate___init__ l_InvalidTemplate___init__ lc_InvalidTemplate___init__ c_InvalidTemplate___init__ k_InvalidTemplate___init__ if_InvalidTemplate___init__ ca_InvalidTemplate___init__ cb_InvalidTemplate___init__ ce_InvalidTemplate___init__ tp_InvalidTemplate___init__ su_InvalidTemplate___init__ op_InvalidTemplate___init__ me_InvalidTemplate___init__ h_InvalidTemplate___init__ ei_InvalidTemplate eo_InvalidTemplate ed_InvalidTemplate esa_InvalidTemplate eb_InvalidTemplate es_InvalidTemplate et_InvalidTemplate kc_InvalidTemplate tk_InvalidTemplate_index h_is_integer l_is_integer c_is_integer k_is_integer h_is_within l_is_within c_is_within k_is_within h_is_word l_is_word c_is_word k_is_word h_is_list l_is_list c_is_list k_is_list h_is_cell l_is_cell c_is_cell k_is_cell h_is_entry l_is_entry c_is_entry k_is_entry h_parameters_in l_parameters_in c_parameters_in k_parameters_in h_Template___init__ l_Template___init__ c_Template___init__ k_Template___init__ if_Template___init__ mk_Template kc_Template h_Template___eq__ l_Template___eq__ c_Template___eq__ k_Template___eq__ if_Template___eq__ h_Template_put_rows pg_Template_put_rows pt_Template_put_rows pr_Template_put_rows l_Template_put_rows c_Template_put_rows k_Template_put_rows h_Template_taken_rows pg_Template_taken_rows pt_Template_taken_rows pr_Template_taken_rows l_Template_taken_rows c_Template_taken_rows k_Template_taken_rows h_Template_parameters pg_Template_parameters pt_Template_parameters pr_Template_parameters l_Template_parameters c_Template_parameters k_Template_parameters h__law_pen l__law_pen c__law_pen k__law_pen h__law_draw l__law_draw c__law_draw k__law_draw h__law_pick l__law_pick c__law_pick k__law_pick h__law_qint l__law_qint c__law_qint k__law_qint h__law_qodd l__law_qodd c__law_qodd k__law_qodd h__law_vused l__law_vused c__law_vused k__law_vused h__law_is_word_here l__law_is_word_here c__law_is_word_here k__law_is_word_here h__law_is_entry l__law_is_entry c__law_is_entry k__law_is_entry h__law_due l__law_due c__law_due k__law_due h__law_told l__law_told c__law_told k__law_told h__law_entry l__law_entry c__law_entry k__law_entry h__law_bad l__law_bad c__law_bad k__law_bad h__law_same l__law_same c__law_same k__law_same h_law l_law c_law k_law nn_Template nb_Template nz_Template nt_Template cg_InvalidTemplate cn_InvalidTemplate ch_InvalidTemplate cm_InvalidTemplate cf_InvalidTemplate_index b_isinstance b_str b_len b_all b_list b_tuple b_enumerate b_range b_int b_abs b_repr b_sorted b_set b_bool b_super b_ValueError y_MAX_WORD y_MAX_COLUMNS y_MAX_NAMES y_SMALL xm_InvalidTemplate_InvalidTemplate
end Q
open PySem PySem.W PySem.Calls PyProof.Rows
set_option maxRecDepth 100000 in
set_option maxHeartbeats 0 in
theorem PySem.Challenge.cw_onlylooks_k73_templates_made_holds : PySem.Challenge.rw_onlylooks_k73_templates_made.Holds := by
  w_on; o_law
  refine HandSHeadRun.head_any (r := OpenLaw.row PySem.Challenge.rw_onlylooks_k73_templates_made) (q := Q.hq) (H := Q.hk) (ob := Q.hob) (M := 9000) (loose := Q.hnames) (d := HandSHeadRun.topDef (OpenLaw.row PySem.Challenge.rw_onlylooks_k73_templates_made).prog 34) (kwd := []) Q.hob_eq (by kernel_rfl) (fun s => by kernel_rfl) Q.hrun (by kernel_rfl) (by kernel_rfl) (by kernel_rfl) (by rfl) (by first | assumption | decide +kernel) (by decide +kernel) ⟨rfl, rfl, rfl, rfl, rfl, by decide +kernel⟩ ?hw ?hc
  case hw => w_witness2
  case hc =>
    refine Q.walkGE (l := PySem.Challenge.rw_onlylooks_k73_templates_made) 10 ⟨rfl, by decide, by decide⟩ rfl (by kernel_rfl) (by first | rfl | decide +kernel) ?F
    intro w mg fa h Y G hmg0
    obtain ⟨K, KX, c, fv⟩ := Y
    have hmg : mg ("law" : PySem.Str) = some (.ref fa) := by
      have e : (HandSHeadRun.topDef (OpenLaw.row PySem.Challenge.rw_onlylooks_k73_templates_made).prog 34).name = ("law" : PySem.Str) := by kernel_rfl
      rw [← e]
      exact hmg0
    obtain ⟨fd, hb, hF⟩ := Q.hfacts (w := w) KX G hmg c fv
    exact ⟨K, fd, KX, hb, hF⟩
