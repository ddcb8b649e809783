import PyProof.Rows.All
import Wide.All
import OpenK.AllK
import Wide.FinOn
import HandS.ForMost
import HandS.Walk
import HandS.IsInst
import HandS.Star
import HandS.DictComp
import HandS.Zip
import HandS.Wide
import HandS.Flow
import HandS.Style
import HandS.Conv
import HandS.TupAny
import HandS.Head0
import HandS.Head1
import HandS.Head2
import HandS.HeadHook1
import HandS.HeadHook2
import PySem.Challenge.RW_onlylooks_k92_errors_and_limits
import KE.KExcInit
import HandS.ExcInit
import HandS.Lambda
import HandS.Exc
import HandS.ExcOwn
import HandS.WordsExc
import HandS.Deep
import HandS.Iter
import HandS.Comp
import HandS.TupLen
import HandS.Text
import HandS.StrMore
import HandS.OwnEq
import HandS.Property
import KE.KOpsOwn
import KE.KDictSum
import HandS.More
import HandS.RaiseMore
import PyProof.ReprRoads
import KE.KSuper
import HandS.Nested
import HandS.ClsMeth
import HandS.MakeKwOnly
import KE.KCallOwn
import HandS.DictTup
import KE.SortData
import KE.KDictCopyH
import KE.KExcSuper
import HandS.ExcField
import KE.KExcIs
import HandS.ExcIs
import KE.GoesEnum
import KE.KEqDict
import HandS.Strs
import HandS.ListItems
import HandS.SetFor
import KE.KRevSl
import HandS.Finally
import HandS.SortRule
import KE.LtData
import PyProof.NeKinds
import HandS.SetBool
import HandS.Flt
import HandS.ExcValue
set_option Elab.async false
set_option linter.all false
set_option maxRecDepth 100000
set_option maxHeartbeats 4000000
namespace Q
open PySem L2
/-! ### the names of the module -/
/-- a def of the module, to be called -/
structure Dk (K : PySem.W.Frag) (mg : Str → Option Value) (x : Str) (f : Addr) (fd : FuncData) (ps : List Str) : Prop where
  m : mg x = some (.ref f)
  k : PySem.W.keepIn K (.ref f) = true
  b : Binds K fd ps []
/-! ### words -/
/-! ### rules whose reading names the written part by its own letter -/
def rLenQ (K : PySem.W.Frag) : List V → Hp → VK → Prop := fun xs H Q => ∃ p ys, xs = [.ref p] ∧ (SqL K H p ys ∨ SqT K H p ys) ∧ Q (.int ys.length) H
def rListQ (K : PySem.W.Frag) : List V → Hp → VK → Prop := fun xs H Q => ∃ p ys, xs = [.ref p] ∧ (SqL K H p ys ∨ SqT K H p ys) ∧ ∀ l, H l = none → Q (.ref l) (upd H l (.lst ys))
section
variable {X : Cx}
theorem kLen (K : PySem.W.Frag) (h : X.K = K := by rfl) : CallR X (.builtin "len") (rLenQ K) := by subst h; exact call_len_seq
theorem kList (K : PySem.W.Frag) (h : X.K = K := by rfl) : CallR X (.type "list") (rListQ K) := by subst h; exact call_list_of
theorem kIxL (K : PySem.W.Frag) (h : X.K = K := by rfl) : IxR X (rIxL K) := by subst h; exact ix_list
theorem kSlL (K : PySem.W.Frag) (h : X.K = K := by rfl) : SlR X (rSlL K) := by subst h; exact sl_list
theorem kIn (K : PySem.W.Frag) (h : X.K = K := by rfl) : OpR X (compareOp .In) (rIn K false) := by subst h; exact op_in_seq
theorem kEqD (K : PySem.W.Frag) (hu : X.A.units + 64 < cLine) (h : X.K = K := by rfl) : OpR X (compareOp .Eq) (rEqD K) := by subst h; exact op_eqD hu
theorem kNeD (K : PySem.W.Frag) (hu : X.A.units + 64 < cLine) (h : X.K = K := by rfl) : OpR X (compareOp .NotEq) (rNeD K) := by subst h; exact op_neD hu
end
/-! ### heaps -/
theorem same_new {H : Hp} {p : Addr} {o : HO} (h : H p = none) : Same H (upd H p o) := fun a u e => by
  rw [upd_ne (ne_of_none e h)]
  exact e
theorem same_mut {H H' : Hp} {p : Addr} {o : HO} (e : Same H H') (h : H p = none) : Same H (upd H' p o) := fun a u ha => by
  rw [upd_ne (ne_of_none ha h)]
  exact e a u ha
theorem same_rd {H H' : Hp} {a : Addr} {u : HO} (e : Same H H') (h : Rd H a u) : Rd H' a u := by
  rcases h with h | ⟨o, h⟩
  · exact Or.inl (e a _ h)
  · exact Or.inr ⟨o, e a _ h⟩
theorem same_l {K : PySem.W.Frag} {H H' : Hp} {a : Addr} {xs : List V} (e : Same H H') (h : SqL K H a xs) : SqL K H' a xs := by
  rcases h with h | h
  · exact Or.inl (same_rd e h)
  · exact Or.inr h
/-! ### a comprehension whose parts change nothing that was there -/
theorem sizeLine_lt {n : Nat} (h : n ≤ 100000) : n < sizeLine := Nat.lt_of_le_of_lt h (by decide)
theorem sizeLine_le {n : Nat} (h : n ≤ 100000) : n ≤ sizeLine := Nat.le_trans h (by decide)
theorem cut_take (xs : List V) (k : Nat) : cutV xs none (some (k : Int)) = xs.take k := by
  unfold cutV
  rw [HT.sIx_none, HT.sIx_nat, List.drop_zero, Nat.sub_zero, ← List.take_take, List.take_length]
theorem eqv_nil (ds : List PyData) : PyData.eqv (.list ds) (.list []) = ds.isEmpty := by
  cases ds <;> rfl
end Q
/-! the head by one run of the kernel; the facts by a check of the objects that are read -/
namespace Q
open PySem PySem.Spec PyProof.Rows L2
abbrev Frg := PySem.W.Frag
/-- what a walk may read behind an object -/
def refsQ (o : Obj) : List Addr := match o.data with
  | .dict es _ => es.toList.flatMap fun e => He.refV e.val
  | .func fd => He.refV fd.code ++ He.refV fd.kwdefaults ++ fd.closure.map (·.2)
  | .cls cd => cd.ns :: cd.mro.flatMap He.refV
  | .cell (some v) => He.refV v
  | .fields vs => (match o.cls with
    | .type n => if n == "property" || n == "staticmethod" then vs.toList.flatMap He.refV else []
    | _ => [])
  | _ => []
def growQ (g : Addr → Option Obj) (as : List Addr) : List Addr := (as ++ as.flatMap fun a => match g a with
  | some o => refsQ o
  | none => []).eraseDups
def asQ (g : Addr → Option Obj) : Nat → List Addr
  | 0 => [mainGlobals, cStatics]
  | n + 1 => growQ g (asQ g n)
abbrev FnV : Type := Option (Str × Str × Arguments × FuncBody × Scope × Addr × List Str × Addr × Value)
def fnV (K : Frg) (a : Addr) : FnV := match K.lookup a with
  | some ⟨_, _, .func fd, _⟩ => some (fd.name, fd.qualname, fd.params, fd.body, fd.scope, fd.globals, fd.closure.map (·.1), fd.builtins, fd.defaults)
  | _ => none
def cdQ (K : Frg) (a : Addr) : Value := match K.lookup a with
  | some ⟨_, _, .func fd, _⟩ => fd.code
  | _ => .none
def coQ (K : Frg) (a : Addr) : Addr := match cdQ K a with
  | .ref c => c
  | _ => 0
def ccQ (K : Frg) (a : Addr) : Addr := match K.lookup a with
  | some ⟨_, _, .func fd, _⟩ => (match fd.closure with
    | (_, c) :: _ => c
    | _ => 0)
  | _ => 0
def cellQ (K : Frg) (a : Addr) : Option Value := match K.lookup a with
  | some ⟨_, _, .cell (some v), _⟩ => some v
  | _ => none
def fileQ (K : Frg) (a : Addr) : Option Str := match K.lookup a with
  | some ⟨_, _, .fields vs, _⟩ => (match (vs[2]? : Option Value) with
    | some (.str f _) => some f
    | _ => none)
  | _ => none
def intQ (K : Frg) (x : Str) (i : Int) : Bool := match PySem.W.nsIn K mainGlobals x with
  | some (some (.int j _)) => decide (j = i)
  | _ => false
def plainV (x qual : Str) (st : Stmt) : FnV := some (x, qual, defArgs st, .stmts (defBody st), defScope st, mainGlobals, [], builtinsNs, .none)
def superV (x qual : Str) (st : Stmt) : FnV := some (x, qual, defArgs st, .stmts (defBody st), defScope st, mainGlobals, ["__class__"], builtinsNs, .none)
section
variable {K : Frg} {a : Addr} {x qual : Str} {st : Stmt}
theorem fn_ex (e : fnV K a = plainV x qual st) : ∃ (oc : Value) (od : Option Addr) (kV doc pm : Value) (an : Option Addr) (ct : Value) (sl : Array (Option Value)), K.lookup a = some ⟨oc, od, .func (PySem.W.fnOf x qual (defArgs st) (defBody st) (defScope st) .none kV doc pm an (cdQ K a) ct), sl⟩ := by
  unfold fnV plainV at e
  unfold cdQ
  cases q : K.lookup a with
  | none => rw [q] at e; cases e
  | some o =>
    obtain ⟨oc, od, dt, sl⟩ := o
    rw [q] at e
    cases dt with
    | func fd =>
      obtain ⟨n1, n2, n3, n4, n5, n6, n7, n8, n9, n10, n11, n12, n13, n14, n15⟩ := fd
      simp only [Option.some.injEq, Prod.mk.injEq, List.map_eq_nil_iff] at e
      obtain ⟨h1, h2, h3, h4, h5, h6, h7, h8, h9⟩ := e
      subst h1 h2 h3 h4 h5 h6 h7 h8 h9
      exact ⟨oc, od, n9, n10, n11, n12, n14, sl, rfl⟩
    | _ => cases e
theorem sup_ex {D : Addr} (e : fnV K a = superV x qual st) (hc : cdQ K a = .ref (coQ K a)) (he : cellQ K (ccQ K a) = some (.ref D)) : ∃ (oc kV doc pm ct cl : Value) (od an cld : Option Addr) (osl csl : Array (Option Value)),
    K.lookup a = some ⟨oc, od, .func (PySem.W.fnX x qual (defArgs st) (defBody st) (defScope st) [(("__class__" : Str), ccQ K a)] .none kV doc pm an (.ref (coQ K a)) ct), osl⟩ ∧ K.lookup (ccQ K a) = some ⟨cl, cld, .cell (some (.ref D)), csl⟩ := by
  have hcell : ∃ (cl : Value) (cld : Option Addr) (csl : Array (Option Value)), K.lookup (ccQ K a) = some ⟨cl, cld, .cell (some (.ref D)), csl⟩ := by
    unfold cellQ at he
    split at he
    · rename_i o1 o2 v o3 q
      cases he
      exact ⟨_, _, _, q⟩
    · cases he
  obtain ⟨cl, cld, csl, hcell⟩ := hcell
  generalize hcc : ccQ K a = cc at hcell ⊢
  generalize coQ K a = co at hc ⊢
  unfold fnV superV at e
  unfold cdQ at hc
  unfold ccQ at hcc
  cases q : K.lookup a with
  | none => rw [q] at e; cases e
  | some o =>
    obtain ⟨oc, od, dt, sl⟩ := o
    rw [q] at e hc hcc
    cases dt with
    | func fd =>
      obtain ⟨n1, n2, n3, n4, n5, n6, n7, n8, n9, n10, n11, n12, n13, n14, n15⟩ := fd
      simp only [Option.some.injEq, Prod.mk.injEq] at e
      obtain ⟨h1, h2, h3, h4, h5, h6, h7, h8, h9⟩ := e
      cases n7 with
      | nil => cases h7
      | cons p r =>
        rw [List.map_cons] at h7
        simp only [List.cons.injEq, List.map_eq_nil_iff] at h7
        obtain ⟨h71, h72⟩ := h7
        obtain ⟨p1, p2⟩ := p
        have hp2 : p2 = cc := hcc
        have hp1 : p1 = ("__class__" : Str) := h71
        have h13 : n13 = .ref co := hc
        subst h1 h2 h3 h4 h5 h6 h72 hp1 hp2 h8 h9 h13
        exact ⟨oc, n9, n10, n11, n14, cl, od, n12, cld, sl, csl, rfl, hcell⟩
    | _ => cases e
theorem file_ex {c : Addr} {f : Str} (e : fileQ K c = some f) : ∃ (oc : Value) (od : Option Addr) (vs : Array Value) (sl : Array (Option Value)) (tf : Tok), K.lookup c = some ⟨oc, od, .fields vs, sl⟩ ∧ vs[2]? = some (.str f tf) := by
  unfold fileQ at e
  split at e
  · rename_i o1 o2 vs o3 q
    split at e
    · rename_i g tf q2
      cases e
      exact ⟨_, _, vs, _, tf, q, q2⟩
    · cases e
  · cases e
theorem int_ex {z : Str} {i : Int} (h : intQ K z i = true) : ∃ t, PySem.W.nsIn K mainGlobals z = some (some (.int i t)) := by
  unfold intQ at h
  split at h
  · rename_i j t q
    exact ⟨t, by rw [q, of_decide_eq_true h]⟩
  · cases h
end
/-! the hook -/
abbrev AlQ : Type := Bool × List FnV
def obsQ (n : Nat) (ck : Frg → Bool) (fv : Frg → List FnV) (g : Addr → Option Obj) : AlQ := (ck (He.frG g (asQ g n)), fv (He.frG g (asQ g n)))
def hookQ (n : Nat) (ck : Frg → Bool) (fv : Frg → List FnV) (vals : List FnV) : PySem.W.Hook where
  α := AlQ
  obs := fun s => obsQ n ck fv s.heap.get?
  val := fun _ => (true, vals)
  says := fun _ h => ∃ K : Frg, K.In h ∧ ck K = true ∧ fv K = vals
  of := fun _ _ e => ⟨_, He.frG_in, congrArg Prod.fst e, congrArg Prod.snd e⟩
  keeps := fun _ _ _ ⟨K, hK, c⟩ k => ⟨K, PySem.W.Frag.In.keeps hK k, c⟩
theorem obsQ_eq {n : Nat} {ck : Frg → Bool} {fv : Frg → List FnV} {vals : List FnV} {g : Addr → Option Obj} {s : Shared} (h : ∀ a, g a = s.heap.get? a) : obsQ n ck fv g = (hookQ n ck fv vals).obs s := by
  have e : g = s.heap.get? := funext h
  rw [e]
  rfl
theorem at_list {α : Type} {xs ys : List α} (e : xs = ys) (i : Nat) {a b : α} (h1 : xs[i]? = some a) (h2 : ys[i]? = some b) : a = b := by
  rw [e, h2] at h1
  exact (Option.some.inj h1).symm
end Q
namespace Q
open PySem L2 PySem.Spec PyProof.Rows
def top (i : Nat) : Stmt := PySem.Challenge.pw_onlylooks_k92_errors_and_limits.main.body.getD i (.Pass ⟨0, 0, 0, 0⟩)
abbrev s_InvalidTable___init__ : Stmt := inClass (top 1) 0
abbrev N_InvalidTable___init__ : List Str := ["self", "argument", "__class__"]
abbrev p_InvalidTable___init__ : List Str := ["self", "argument"]
abbrev s_InvalidRow___init__ : Stmt := inClass (top 3) 0
abbrev N_InvalidRow___init__ : List Str := ["self", "value", "__class__"]
abbrev p_InvalidRow___init__ : List Str := ["self", "value"]
abbrev s_InvalidRule___init__ : Stmt := inClass (top 5) 0
abbrev N_InvalidRule___init__ : List Str := ["self", "argument", "__class__"]
abbrev p_InvalidRule___init__ : List Str := ["self", "argument"]
abbrev s_Misfit___init__ : Stmt := inClass (top 6) 0
abbrev N_Misfit___init__ : List Str := ["self", "index", "__class__"]
abbrev p_Misfit___init__ : List Str := ["self", "index"]
abbrev s_Circle___init__ : Stmt := inClass (top 7) 0
abbrev N_Circle___init__ : List Str := ["self", "value", "__class__"]
abbrev p_Circle___init__ : List Str := ["self", "value"]
abbrev s_InvalidFact___init__ : Stmt := inClass (top 8) 0
abbrev N_InvalidFact___init__ : List Str := ["self", "index", "__class__"]
abbrev p_InvalidFact___init__ : List Str := ["self", "index"]
abbrev s_InvalidChange___init__ : Stmt := inClass (top 9) 0
abbrev N_InvalidChange___init__ : List Str := ["self", "index", "__class__"]
abbrev p_InvalidChange___init__ : List Str := ["self", "index"]
abbrev s_InvalidAnswer___init__ : Stmt := inClass (top 10) 0
abbrev N_InvalidAnswer___init__ : List Str := ["self", "value", "__class__"]
abbrev p_InvalidAnswer___init__ : List Str := ["self", "value"]
abbrev s_InvalidTemplate___init__ : Stmt := inClass (top 11) 0
abbrev N_InvalidTemplate___init__ : List Str := ["self", "index", "__class__"]
abbrev p_InvalidTemplate___init__ : List Str := ["self", "index"]
abbrev s_InvalidNames___init__ : Stmt := inClass (top 12) 0
abbrev N_InvalidNames___init__ : List Str := ["self", "value", "__class__"]
abbrev p_InvalidNames___init__ : List Str := ["self", "value"]
abbrev s_InvalidLimit___init__ : Stmt := inClass (top 14) 0
abbrev N_InvalidLimit___init__ : List Str := ["self", "value", "__class__"]
abbrev p_InvalidLimit___init__ : List Str := ["self", "value"]
abbrev s_Unreadable___init__ : Stmt := inClass (top 15) 0
abbrev N_Unreadable___init__ : List Str := ["self", "index", "__class__"]
abbrev p_Unreadable___init__ : List Str := ["self", "index"]
abbrev s_UnknownTable___init__ : Stmt := inClass (top 17) 0
abbrev N_UnknownTable___init__ : List Str := ["self", "value", "__class__"]
abbrev p_UnknownTable___init__ : List Str := ["self", "value"]
abbrev s_UnknownColumn___init__ : Stmt := inClass (top 18) 0
abbrev N_UnknownColumn___init__ : List Str := ["self", "value", "__class__"]
abbrev p_UnknownColumn___init__ : List Str := ["self", "value"]
abbrev s_OutOfRange___init__ : Stmt := inClass (top 19) 0
abbrev N_OutOfRange___init__ : List Str := ["self", "value", "__class__"]
abbrev p_OutOfRange___init__ : List Str := ["self", "value"]
abbrev s_NoAnswer___init__ : Stmt := inClass (top 20) 0
abbrev N_NoAnswer___init__ : List Str := ["self", "value", "__class__"]
abbrev p_NoAnswer___init__ : List Str := ["self", "value"]
abbrev s_NoCase___init__ : Stmt := inClass (top 21) 0
abbrev N_NoCase___init__ : List Str := ["self", "case", "__class__"]
abbrev p_NoCase___init__ : List Str := ["self", "case"]
abbrev s_NoBranch___init__ : Stmt := inClass (top 22) 0
abbrev N_NoBranch___init__ : List Str := ["self", "value", "__class__"]
abbrev p_NoBranch___init__ : List Str := ["self", "value"]
abbrev s_TooMany___init__ : Stmt := inClass (top 24) 0
abbrev N_TooMany___init__ : List Str := ["self", "limit", "__class__"]
abbrev p_TooMany___init__ : List Str := ["self", "limit"]
abbrev s_TooDear___init__ : Stmt := inClass (top 25) 0
abbrev N_TooDear___init__ : List Str := ["self", "number", "__class__"]
abbrev p_TooDear___init__ : List Str := ["self", "number"]
abbrev s_Broken___init__ : Stmt := inClass (top 26) 0
abbrev N_Broken___init__ : List Str := ["self", "index", "spot", "__class__"]
abbrev p_Broken___init__ : List Str := ["self", "index", "spot"]
abbrev s_Unfit___init__ : Stmt := inClass (top 27) 0
abbrev N_Unfit___init__ : List Str := ["self", "index", "__class__"]
abbrev p_Unfit___init__ : List Str := ["self", "index"]
abbrev s_Refused___init__ : Stmt := inClass (top 29) 0
abbrev N_Refused___init__ : List Str := ["self", "change", "__class__"]
abbrev p_Refused___init__ : List Str := ["self", "change"]
abbrev s_LookFailed___init__ : Stmt := inClass (top 30) 0
abbrev N_LookFailed___init__ : List Str := ["self", "number", "__class__"]
abbrev p_LookFailed___init__ : List Str := ["self", "number"]
abbrev s_NoLook___init__ : Stmt := inClass (top 31) 0
abbrev N_NoLook___init__ : List Str := ["self", "value", "__class__"]
abbrev p_NoLook___init__ : List Str := ["self", "value"]
abbrev s__law_pen : Stmt := top 45
abbrev N__law_pen : List Str := ["_law_script"]
abbrev p__law_pen : List Str := ["_law_script"]
abbrev s__law_draw : Stmt := top 46
abbrev N__law_draw : List Str := ["_law_pen_here", "_law_span", "_law_turn", "_law_cell", "_law_primes", "_law_prime", "_law_drawn", "_law_digit"]
abbrev p__law_draw : List Str := ["_law_pen_here", "_law_span"]
abbrev s__law_pick : Stmt := top 47
abbrev N__law_pick : List Str := ["_law_pen_here", "_law_options"]
abbrev p__law_pick : List Str := ["_law_pen_here", "_law_options"]
abbrev s__law_any_value : Stmt := top 48
abbrev N__law_any_value : List Str := ["_law_pen_here", "_law_some"]
abbrev p__law_any_value : List Str := ["_law_pen_here"]
abbrev s__law_some_errors : Stmt := top 49
abbrev N__law_some_errors : List Str := ["_law_thing", "_law_found", "_law_error"]
abbrev p__law_some_errors : List Str := ["_law_thing"]
abbrev s__law_other_errors : Stmt := top 50
abbrev N__law_other_errors : List Str := ["_law_thing", "_law_found", "_law_error"]
abbrev p__law_other_errors : List Str := ["_law_thing"]
abbrev s__law_classes : Stmt := top 51
abbrev N__law_classes : List Str := ["_law_error", "_law_found"]
abbrev p__law_classes : List Str := ["_law_error"]
abbrev s__law_sorts : Stmt := top 52
abbrev N__law_sorts : List Str := ["_law_error", "_law_flags", "_law_one", "_law_flag"]
abbrev p__law_sorts : List Str := ["_law_error"]
abbrev s_law : Stmt := top 53
abbrev N_law : List Str := ["_law_script", "_law_pen_here", "_law_turn", "_law_list_here", "_law_error", "_law_some", "_law_thing", "_law_kept", "_law_every", "_law_titled", "_law_placed", "_law_sort"]
abbrev p_law : List Str := ["_law_script"]
end Q
namespace Q
open PySem L2 PySem.Spec PyProof.Rows
def x_C_InvalidTable (K : Frg) := He.ga K "InvalidTable"
def x_C_InvalidSchema (K : Frg) := He.ga K "InvalidSchema"
def x_C_InvalidRow (K : Frg) := He.ga K "InvalidRow"
def x_C_OtherSchema (K : Frg) := He.ga K "OtherSchema"
def x_C_InvalidRule (K : Frg) := He.ga K "InvalidRule"
def x_C_Misfit (K : Frg) := He.ga K "Misfit"
def x_C_Circle (K : Frg) := He.ga K "Circle"
def x_C_InvalidFact (K : Frg) := He.ga K "InvalidFact"
def x_C_InvalidChange (K : Frg) := He.ga K "InvalidChange"
def x_C_InvalidAnswer (K : Frg) := He.ga K "InvalidAnswer"
def x_C_InvalidTemplate (K : Frg) := He.ga K "InvalidTemplate"
def x_C_InvalidNames (K : Frg) := He.ga K "InvalidNames"
def x_C_InvalidPair (K : Frg) := He.ga K "InvalidPair"
def x_C_InvalidLimit (K : Frg) := He.ga K "InvalidLimit"
def x_C_Unreadable (K : Frg) := He.ga K "Unreadable"
def x_C_NoLine (K : Frg) := He.ga K "NoLine"
def x_C_UnknownTable (K : Frg) := He.ga K "UnknownTable"
def x_C_UnknownColumn (K : Frg) := He.ga K "UnknownColumn"
def x_C_OutOfRange (K : Frg) := He.ga K "OutOfRange"
def x_C_NoAnswer (K : Frg) := He.ga K "NoAnswer"
def x_C_NoCase (K : Frg) := He.ga K "NoCase"
def x_C_NoBranch (K : Frg) := He.ga K "NoBranch"
def x_C_Nothing (K : Frg) := He.ga K "Nothing"
def x_C_TooMany (K : Frg) := He.ga K "TooMany"
def x_C_TooDear (K : Frg) := He.ga K "TooDear"
def x_C_Broken (K : Frg) := He.ga K "Broken"
def x_C_Unfit (K : Frg) := He.ga K "Unfit"
def x_C_NeverFits (K : Frg) := He.ga K "NeverFits"
def x_C_Refused (K : Frg) := He.ga K "Refused"
def x_C_LookFailed (K : Frg) := He.ga K "LookFailed"
def x_C_NoLook (K : Frg) := He.ga K "NoLook"
def x_a_InvalidTable___init__ (K : Frg) := He.ma K (He.ga K "InvalidTable") "__init__"
def x_co_InvalidTable___init__ (K : Frg) := coQ K (He.ma K (He.ga K "InvalidTable") "__init__")
def x_a_InvalidRow___init__ (K : Frg) := He.ma K (He.ga K "InvalidRow") "__init__"
def x_co_InvalidRow___init__ (K : Frg) := coQ K (He.ma K (He.ga K "InvalidRow") "__init__")
def x_a_InvalidRule___init__ (K : Frg) := He.ma K (He.ga K "InvalidRule") "__init__"
def x_co_InvalidRule___init__ (K : Frg) := coQ K (He.ma K (He.ga K "InvalidRule") "__init__")
def x_a_Misfit___init__ (K : Frg) := He.ma K (He.ga K "Misfit") "__init__"
def x_co_Misfit___init__ (K : Frg) := coQ K (He.ma K (He.ga K "Misfit") "__init__")
def x_a_Circle___init__ (K : Frg) := He.ma K (He.ga K "Circle") "__init__"
def x_co_Circle___init__ (K : Frg) := coQ K (He.ma K (He.ga K "Circle") "__init__")
def x_a_InvalidFact___init__ (K : Frg) := He.ma K (He.ga K "InvalidFact") "__init__"
def x_co_InvalidFact___init__ (K : Frg) := coQ K (He.ma K (He.ga K "InvalidFact") "__init__")
def x_a_InvalidChange___init__ (K : Frg) := He.ma K (He.ga K "InvalidChange") "__init__"
def x_co_InvalidChange___init__ (K : Frg) := coQ K (He.ma K (He.ga K "InvalidChange") "__init__")
def x_a_InvalidAnswer___init__ (K : Frg) := He.ma K (He.ga K "InvalidAnswer") "__init__"
def x_co_InvalidAnswer___init__ (K : Frg) := coQ K (He.ma K (He.ga K "InvalidAnswer") "__init__")
def x_a_InvalidTemplate___init__ (K : Frg) := He.ma K (He.ga K "InvalidTemplate") "__init__"
def x_co_InvalidTemplate___init__ (K : Frg) := coQ K (He.ma K (He.ga K "InvalidTemplate") "__init__")
def x_a_InvalidNames___init__ (K : Frg) := He.ma K (He.ga K "InvalidNames") "__init__"
def x_co_InvalidNames___init__ (K : Frg) := coQ K (He.ma K (He.ga K "InvalidNames") "__init__")
def x_a_InvalidLimit___init__ (K : Frg) := He.ma K (He.ga K "InvalidLimit") "__init__"
def x_co_InvalidLimit___init__ (K : Frg) := coQ K (He.ma K (He.ga K "InvalidLimit") "__init__")
def x_a_Unreadable___init__ (K : Frg) := He.ma K (He.ga K "Unreadable") "__init__"
def x_co_Unreadable___init__ (K : Frg) := coQ K (He.ma K (He.ga K "Unreadable") "__init__")
def x_a_UnknownTable___init__ (K : Frg) := He.ma K (He.ga K "UnknownTable") "__init__"
def x_co_UnknownTable___init__ (K : Frg) := coQ K (He.ma K (He.ga K "UnknownTable") "__init__")
def x_a_UnknownColumn___init__ (K : Frg) := He.ma K (He.ga K "UnknownColumn") "__init__"
def x_co_UnknownColumn___init__ (K : Frg) := coQ K (He.ma K (He.ga K "UnknownColumn") "__init__")
def x_a_OutOfRange___init__ (K : Frg) := He.ma K (He.ga K "OutOfRange") "__init__"
def x_co_OutOfRange___init__ (K : Frg) := coQ K (He.ma K (He.ga K "OutOfRange") "__init__")
def x_a_NoAnswer___init__ (K : Frg) := He.ma K (He.ga K "NoAnswer") "__init__"
def x_co_NoAnswer___init__ (K : Frg) := coQ K (He.ma K (He.ga K "NoAnswer") "__init__")
def x_a_NoCase___init__ (K : Frg) := He.ma K (He.ga K "NoCase") "__init__"
def x_co_NoCase___init__ (K : Frg) := coQ K (He.ma K (He.ga K "NoCase") "__init__")
def x_a_NoBranch___init__ (K : Frg) := He.ma K (He.ga K "NoBranch") "__init__"
def x_co_NoBranch___init__ (K : Frg) := coQ K (He.ma K (He.ga K "NoBranch") "__init__")
def x_a_TooMany___init__ (K : Frg) := He.ma K (He.ga K "TooMany") "__init__"
def x_co_TooMany___init__ (K : Frg) := coQ K (He.ma K (He.ga K "TooMany") "__init__")
def x_a_TooDear___init__ (K : Frg) := He.ma K (He.ga K "TooDear") "__init__"
def x_co_TooDear___init__ (K : Frg) := coQ K (He.ma K (He.ga K "TooDear") "__init__")
def x_a_Broken___init__ (K : Frg) := He.ma K (He.ga K "Broken") "__init__"
def x_co_Broken___init__ (K : Frg) := coQ K (He.ma K (He.ga K "Broken") "__init__")
def x_a_Unfit___init__ (K : Frg) := He.ma K (He.ga K "Unfit") "__init__"
def x_co_Unfit___init__ (K : Frg) := coQ K (He.ma K (He.ga K "Unfit") "__init__")
def x_a_Refused___init__ (K : Frg) := He.ma K (He.ga K "Refused") "__init__"
def x_co_Refused___init__ (K : Frg) := coQ K (He.ma K (He.ga K "Refused") "__init__")
def x_a_LookFailed___init__ (K : Frg) := He.ma K (He.ga K "LookFailed") "__init__"
def x_co_LookFailed___init__ (K : Frg) := coQ K (He.ma K (He.ga K "LookFailed") "__init__")
def x_a_NoLook___init__ (K : Frg) := He.ma K (He.ga K "NoLook") "__init__"
def x_co_NoLook___init__ (K : Frg) := coQ K (He.ma K (He.ga K "NoLook") "__init__")
def x_a__law_pen (K : Frg) := He.ga K "_law_pen"
def x_cd__law_pen (K : Frg) := cdQ K (He.ga K "_law_pen")
def x_a__law_draw (K : Frg) := He.ga K "_law_draw"
def x_cd__law_draw (K : Frg) := cdQ K (He.ga K "_law_draw")
def x_a__law_pick (K : Frg) := He.ga K "_law_pick"
def x_cd__law_pick (K : Frg) := cdQ K (He.ga K "_law_pick")
def x_a__law_any_value (K : Frg) := He.ga K "_law_any_value"
def x_cd__law_any_value (K : Frg) := cdQ K (He.ga K "_law_any_value")
def x_a__law_some_errors (K : Frg) := He.ga K "_law_some_errors"
def x_cd__law_some_errors (K : Frg) := cdQ K (He.ga K "_law_some_errors")
def x_a__law_other_errors (K : Frg) := He.ga K "_law_other_errors"
def x_cd__law_other_errors (K : Frg) := cdQ K (He.ga K "_law_other_errors")
def x_a__law_classes (K : Frg) := He.ga K "_law_classes"
def x_cd__law_classes (K : Frg) := cdQ K (He.ga K "_law_classes")
def x_a__law_sorts (K : Frg) := He.ga K "_law_sorts"
def x_cd__law_sorts (K : Frg) := cdQ K (He.ga K "_law_sorts")
def x_a_law (K : Frg) := He.ga K "law"
def x_cd_law (K : Frg) := cdQ K (He.ga K "law")
def ck0 (K : Frg) : Bool := decide (PySem.W.nsIn K mainGlobals "InvalidTable" = some (some (.ref (x_C_InvalidTable K)))) && (decide (PySem.W.nsIn K mainGlobals "InvalidSchema" = some (some (.ref (x_C_InvalidSchema K)))) && (decide (PySem.W.nsIn K mainGlobals "InvalidRow" = some (some (.ref (x_C_InvalidRow K)))) && (decide (PySem.W.nsIn K mainGlobals "OtherSchema" = some (some (.ref (x_C_OtherSchema K)))) && (decide (PySem.W.nsIn K mainGlobals "InvalidRule" = some (some (.ref (x_C_InvalidRule K)))) && (decide (PySem.W.nsIn K mainGlobals "Misfit" = some (some (.ref (x_C_Misfit K)))) && (decide (PySem.W.nsIn K mainGlobals "Circle" = some (some (.ref (x_C_Circle K)))) && (decide (PySem.W.nsIn K mainGlobals "InvalidFact" = some (some (.ref (x_C_InvalidFact K)))) && (decide (PySem.W.nsIn K mainGlobals "InvalidChange" = some (some (.ref (x_C_InvalidChange K)))) && (decide (PySem.W.nsIn K mainGlobals "InvalidAnswer" = some (some (.ref (x_C_InvalidAnswer K)))) && (decide (PySem.W.nsIn K mainGlobals "InvalidTemplate" = some (some (.ref (x_C_InvalidTemplate K)))) && (decide (PySem.W.nsIn K mainGlobals "InvalidNames" = some (some (.ref (x_C_InvalidNames K)))) && (decide (PySem.W.nsIn K mainGlobals "InvalidPair" = some (some (.ref (x_C_InvalidPair K)))) && (decide (PySem.W.nsIn K mainGlobals "InvalidLimit" = some (some (.ref (x_C_InvalidLimit K)))) && (decide (PySem.W.nsIn K mainGlobals "Unreadable" = some (some (.ref (x_C_Unreadable K)))) && (decide (PySem.W.nsIn K mainGlobals "NoLine" = some (some (.ref (x_C_NoLine K)))) && (decide (PySem.W.nsIn K mainGlobals "UnknownTable" = some (some (.ref (x_C_UnknownTable K)))) && (decide (PySem.W.nsIn K mainGlobals "UnknownColumn" = some (some (.ref (x_C_UnknownColumn K)))) && (decide (PySem.W.nsIn K mainGlobals "OutOfRange" = some (some (.ref (x_C_OutOfRange K)))) && (decide (PySem.W.nsIn K mainGlobals "NoAnswer" = some (some (.ref (x_C_NoAnswer K)))) && (decide (PySem.W.nsIn K mainGlobals "NoCase" = some (some (.ref (x_C_NoCase K)))) && (decide (PySem.W.nsIn K mainGlobals "NoBranch" = some (some (.ref (x_C_NoBranch K)))) && (decide (PySem.W.nsIn K mainGlobals "Nothing" = some (some (.ref (x_C_Nothing K)))) && (decide (PySem.W.nsIn K mainGlobals "TooMany" = some (some (.ref (x_C_TooMany K)))) && (decide (PySem.W.nsIn K mainGlobals "TooDear" = some (some (.ref (x_C_TooDear K)))) && (decide (PySem.W.nsIn K mainGlobals "Broken" = some (some (.ref (x_C_Broken K)))) && (decide (PySem.W.nsIn K mainGlobals "Unfit" = some (some (.ref (x_C_Unfit K)))) && (decide (PySem.W.nsIn K mainGlobals "NeverFits" = some (some (.ref (x_C_NeverFits K)))) && (decide (PySem.W.nsIn K mainGlobals "Refused" = some (some (.ref (x_C_Refused K)))) && (decide (PySem.W.nsIn K mainGlobals "LookFailed" = some (some (.ref (x_C_LookFailed K)))))))))))))))))))))))))))))))))
theorem ck0_ok {K : Frg} (c : ck0 K = true) : (PySem.W.nsIn K mainGlobals "InvalidTable" = some (some (.ref (x_C_InvalidTable K)))) ∧ (PySem.W.nsIn K mainGlobals "InvalidSchema" = some (some (.ref (x_C_InvalidSchema K)))) ∧ (PySem.W.nsIn K mainGlobals "InvalidRow" = some (some (.ref (x_C_InvalidRow K)))) ∧ (PySem.W.nsIn K mainGlobals "OtherSchema" = some (some (.ref (x_C_OtherSchema K)))) ∧ (PySem.W.nsIn K mainGlobals "InvalidRule" = some (some (.ref (x_C_InvalidRule K)))) ∧ (PySem.W.nsIn K mainGlobals "Misfit" = some (some (.ref (x_C_Misfit K)))) ∧ (PySem.W.nsIn K mainGlobals "Circle" = some (some (.ref (x_C_Circle K)))) ∧ (PySem.W.nsIn K mainGlobals "InvalidFact" = some (some (.ref (x_C_InvalidFact K)))) ∧ (PySem.W.nsIn K mainGlobals "InvalidChange" = some (some (.ref (x_C_InvalidChange K)))) ∧ (PySem.W.nsIn K mainGlobals "InvalidAnswer" = some (some (.ref (x_C_InvalidAnswer K)))) ∧ (PySem.W.nsIn K mainGlobals "InvalidTemplate" = some (some (.ref (x_C_InvalidTemplate K)))) ∧ (PySem.W.nsIn K mainGlobals "InvalidNames" = some (some (.ref (x_C_InvalidNames K)))) ∧ (PySem.W.nsIn K mainGlobals "InvalidPair" = some (some (.ref (x_C_InvalidPair K)))) ∧ (PySem.W.nsIn K mainGlobals "InvalidLimit" = some (some (.ref (x_C_InvalidLimit K)))) ∧ (PySem.W.nsIn K mainGlobals "Unreadable" = some (some (.ref (x_C_Unreadable K)))) ∧ (PySem.W.nsIn K mainGlobals "NoLine" = some (some (.ref (x_C_NoLine K)))) ∧ (PySem.W.nsIn K mainGlobals "UnknownTable" = some (some (.ref (x_C_UnknownTable K)))) ∧ (PySem.W.nsIn K mainGlobals "UnknownColumn" = some (some (.ref (x_C_UnknownColumn K)))) ∧ (PySem.W.nsIn K mainGlobals "OutOfRange" = some (some (.ref (x_C_OutOfRange K)))) ∧ (PySem.W.nsIn K mainGlobals "NoAnswer" = some (some (.ref (x_C_NoAnswer K)))) ∧ (PySem.W.nsIn K mainGlobals "NoCase" = some (some (.ref (x_C_NoCase K)))) ∧ (PySem.W.nsIn K mainGlobals "NoBranch" = some (some (.ref (x_C_NoBranch K)))) ∧ (PySem.W.nsIn K mainGlobals "Nothing" = some (some (.ref (x_C_Nothing K)))) ∧ (PySem.W.nsIn K mainGlobals "TooMany" = some (some (.ref (x_C_TooMany K)))) ∧ (PySem.W.nsIn K mainGlobals "TooDear" = some (some (.ref (x_C_TooDear K)))) ∧ (PySem.W.nsIn K mainGlobals "Broken" = some (some (.ref (x_C_Broken K)))) ∧ (PySem.W.nsIn K mainGlobals "Unfit" = some (some (.ref (x_C_Unfit K)))) ∧ (PySem.W.nsIn K mainGlobals "NeverFits" = some (some (.ref (x_C_NeverFits K)))) ∧ (PySem.W.nsIn K mainGlobals "Refused" = some (some (.ref (x_C_Refused K)))) ∧ (PySem.W.nsIn K mainGlobals "LookFailed" = some (some (.ref (x_C_LookFailed K)))) := by
  unfold ck0 at c
  simp only [Bool.and_eq_true, decide_eq_true_eq] at c
  exact c
def ck1 (K : Frg) : Bool := decide (PySem.W.nsIn K mainGlobals "NoLook" = some (some (.ref (x_C_NoLook K)))) && (decide (PySem.W.findIn K (.ref (x_C_InvalidTable K)) "__init__" = some (some (.ref (x_a_InvalidTable___init__ K)))) && (decide (cdQ K (x_a_InvalidTable___init__ K) = .ref (coQ K (x_a_InvalidTable___init__ K))) && (decide (cellQ K (ccQ K (x_a_InvalidTable___init__ K)) = some (.ref (x_C_InvalidTable K))) && (decide (fileQ K (coQ K (x_a_InvalidTable___init__ K)) = some (PySem.Challenge.rw_onlylooks_k92_errors_and_limits).prog.main.file) && (decide (PySem.W.codeIn K (.ref (x_co_InvalidTable___init__ K)) "InvalidTable.__init__" = true) && (decide (PySem.W.keepIn K (.ref (x_a_InvalidTable___init__ K)) = true) && (decide (PySem.W.isFn K (.ref (x_a_InvalidTable___init__ K)) = true) && (decide (PySem.W.mroIn K (x_C_InvalidTable K) (.ref (x_C_InvalidTable K)) = some true) && (decide (PySem.W.nsIn K cStatics "thirdparty.any" = some none) && (decide (PySem.W.ks_superIn K (x_C_InvalidTable K) (x_C_InvalidTable K) "__init__" = some (some (.builtin "ValueError.__init__"))) && (decide (PySem.W.findIn K (.ref (x_C_InvalidTable K)) "__init__" = some (some (.ref (x_a_InvalidTable___init__ K)))) && (decide (PySem.W.excInitIn K (x_C_InvalidTable K) [.type "ValueError", .type "Exception", .type "BaseException", .type "object"] "ValueError.__new__" = true) && (decide (PySem.W.excOver K (x_C_InvalidTable K) [.type "ValueError", .type "Exception", .type "BaseException", .type "object"] = true) && (decide (PySem.W.hasDictIn K (x_C_InvalidTable K) = true) && (decide (PySem.W.findIn K (.ref (x_C_InvalidTable K)) "__setattr__" = some (some (.builtin "object.__setattr__"))) && (decide (PySem.W.subIn K (.ref (x_C_InvalidTable K)) (.type "BaseException") = some true) && (decide (PySem.W.subIn K (.ref (x_C_InvalidTable K)) (.type "ValueError") = some true) && (decide (PySem.W.typeIn K (.ref (x_C_InvalidTable K)) = some (.type "type")) && (decide (PySem.W.keepIn K (.ref (x_C_InvalidTable K)) = true) && (decide (PySem.W.takerIn K (x_C_InvalidTable K) "argument" = some none) && (decide (PySem.W.findIn K (.ref (x_C_InvalidRow K)) "__init__" = some (some (.ref (x_a_InvalidRow___init__ K)))) && (decide (cdQ K (x_a_InvalidRow___init__ K) = .ref (coQ K (x_a_InvalidRow___init__ K))) && (decide (cellQ K (ccQ K (x_a_InvalidRow___init__ K)) = some (.ref (x_C_InvalidRow K))) && (decide (fileQ K (coQ K (x_a_InvalidRow___init__ K)) = some (PySem.Challenge.rw_onlylooks_k92_errors_and_limits).prog.main.file) && (decide (PySem.W.codeIn K (.ref (x_co_InvalidRow___init__ K)) "InvalidRow.__init__" = true) && (decide (PySem.W.keepIn K (.ref (x_a_InvalidRow___init__ K)) = true) && (decide (PySem.W.isFn K (.ref (x_a_InvalidRow___init__ K)) = true) && (decide (PySem.W.mroIn K (x_C_InvalidRow K) (.ref (x_C_InvalidRow K)) = some true) && (decide (PySem.W.nsIn K cStatics "thirdparty.any" = some none))))))))))))))))))))))))))))))
theorem ck1_ok {K : Frg} (c : ck1 K = true) : (PySem.W.nsIn K mainGlobals "NoLook" = some (some (.ref (x_C_NoLook K)))) ∧ (PySem.W.findIn K (.ref (x_C_InvalidTable K)) "__init__" = some (some (.ref (x_a_InvalidTable___init__ K)))) ∧ (cdQ K (x_a_InvalidTable___init__ K) = .ref (coQ K (x_a_InvalidTable___init__ K))) ∧ (cellQ K (ccQ K (x_a_InvalidTable___init__ K)) = some (.ref (x_C_InvalidTable K))) ∧ (fileQ K (coQ K (x_a_InvalidTable___init__ K)) = some (PySem.Challenge.rw_onlylooks_k92_errors_and_limits).prog.main.file) ∧ (PySem.W.codeIn K (.ref (x_co_InvalidTable___init__ K)) "InvalidTable.__init__" = true) ∧ (PySem.W.keepIn K (.ref (x_a_InvalidTable___init__ K)) = true) ∧ (PySem.W.isFn K (.ref (x_a_InvalidTable___init__ K)) = true) ∧ (PySem.W.mroIn K (x_C_InvalidTable K) (.ref (x_C_InvalidTable K)) = some true) ∧ (PySem.W.nsIn K cStatics "thirdparty.any" = some none) ∧ (PySem.W.ks_superIn K (x_C_InvalidTable K) (x_C_InvalidTable K) "__init__" = some (some (.builtin "ValueError.__init__"))) ∧ (PySem.W.findIn K (.ref (x_C_InvalidTable K)) "__init__" = some (some (.ref (x_a_InvalidTable___init__ K)))) ∧ (PySem.W.excInitIn K (x_C_InvalidTable K) [.type "ValueError", .type "Exception", .type "BaseException", .type "object"] "ValueError.__new__" = true) ∧ (PySem.W.excOver K (x_C_InvalidTable K) [.type "ValueError", .type "Exception", .type "BaseException", .type "object"] = true) ∧ (PySem.W.hasDictIn K (x_C_InvalidTable K) = true) ∧ (PySem.W.findIn K (.ref (x_C_InvalidTable K)) "__setattr__" = some (some (.builtin "object.__setattr__"))) ∧ (PySem.W.subIn K (.ref (x_C_InvalidTable K)) (.type "BaseException") = some true) ∧ (PySem.W.subIn K (.ref (x_C_InvalidTable K)) (.type "ValueError") = some true) ∧ (PySem.W.typeIn K (.ref (x_C_InvalidTable K)) = some (.type "type")) ∧ (PySem.W.keepIn K (.ref (x_C_InvalidTable K)) = true) ∧ (PySem.W.takerIn K (x_C_InvalidTable K) "argument" = some none) ∧ (PySem.W.findIn K (.ref (x_C_InvalidRow K)) "__init__" = some (some (.ref (x_a_InvalidRow___init__ K)))) ∧ (cdQ K (x_a_InvalidRow___init__ K) = .ref (coQ K (x_a_InvalidRow___init__ K))) ∧ (cellQ K (ccQ K (x_a_InvalidRow___init__ K)) = some (.ref (x_C_InvalidRow K))) ∧ (fileQ K (coQ K (x_a_InvalidRow___init__ K)) = some (PySem.Challenge.rw_onlylooks_k92_errors_and_limits).prog.main.file) ∧ (PySem.W.codeIn K (.ref (x_co_InvalidRow___init__ K)) "InvalidRow.__init__" = true) ∧ (PySem.W.keepIn K (.ref (x_a_InvalidRow___init__ K)) = true) ∧ (PySem.W.isFn K (.ref (x_a_InvalidRow___init__ K)) = true) ∧ (PySem.W.mroIn K (x_C_InvalidRow K) (.ref (x_C_InvalidRow K)) = some true) ∧ (PySem.W.nsIn K cStatics "thirdparty.any" = some none) := by
  unfold ck1 at c
  simp only [Bool.and_eq_true, decide_eq_true_eq] at c
  exact c
def ck2 (K : Frg) : Bool := decide (PySem.W.ks_superIn K (x_C_InvalidRow K) (x_C_InvalidRow K) "__init__" = some (some (.builtin "ValueError.__init__"))) && (decide (PySem.W.findIn K (.ref (x_C_InvalidRow K)) "__init__" = some (some (.ref (x_a_InvalidRow___init__ K)))) && (decide (PySem.W.excInitIn K (x_C_InvalidRow K) [.type "ValueError", .type "Exception", .type "BaseException", .type "object"] "ValueError.__new__" = true) && (decide (PySem.W.excOver K (x_C_InvalidRow K) [.type "ValueError", .type "Exception", .type "BaseException", .type "object"] = true) && (decide (PySem.W.hasDictIn K (x_C_InvalidRow K) = true) && (decide (PySem.W.findIn K (.ref (x_C_InvalidRow K)) "__setattr__" = some (some (.builtin "object.__setattr__"))) && (decide (PySem.W.subIn K (.ref (x_C_InvalidRow K)) (.type "BaseException") = some true) && (decide (PySem.W.subIn K (.ref (x_C_InvalidRow K)) (.type "ValueError") = some true) && (decide (PySem.W.typeIn K (.ref (x_C_InvalidRow K)) = some (.type "type")) && (decide (PySem.W.keepIn K (.ref (x_C_InvalidRow K)) = true) && (decide (PySem.W.takerIn K (x_C_InvalidRow K) "value" = some none) && (decide (PySem.W.findIn K (.ref (x_C_InvalidRule K)) "__init__" = some (some (.ref (x_a_InvalidRule___init__ K)))) && (decide (cdQ K (x_a_InvalidRule___init__ K) = .ref (coQ K (x_a_InvalidRule___init__ K))) && (decide (cellQ K (ccQ K (x_a_InvalidRule___init__ K)) = some (.ref (x_C_InvalidRule K))) && (decide (fileQ K (coQ K (x_a_InvalidRule___init__ K)) = some (PySem.Challenge.rw_onlylooks_k92_errors_and_limits).prog.main.file) && (decide (PySem.W.codeIn K (.ref (x_co_InvalidRule___init__ K)) "InvalidRule.__init__" = true) && (decide (PySem.W.keepIn K (.ref (x_a_InvalidRule___init__ K)) = true) && (decide (PySem.W.isFn K (.ref (x_a_InvalidRule___init__ K)) = true) && (decide (PySem.W.mroIn K (x_C_InvalidRule K) (.ref (x_C_InvalidRule K)) = some true) && (decide (PySem.W.nsIn K cStatics "thirdparty.any" = some none) && (decide (PySem.W.ks_superIn K (x_C_InvalidRule K) (x_C_InvalidRule K) "__init__" = some (some (.builtin "ValueError.__init__"))) && (decide (PySem.W.findIn K (.ref (x_C_InvalidRule K)) "__init__" = some (some (.ref (x_a_InvalidRule___init__ K)))) && (decide (PySem.W.excInitIn K (x_C_InvalidRule K) [.type "ValueError", .type "Exception", .type "BaseException", .type "object"] "ValueError.__new__" = true) && (decide (PySem.W.excOver K (x_C_InvalidRule K) [.type "ValueError", .type "Exception", .type "BaseException", .type "object"] = true) && (decide (PySem.W.hasDictIn K (x_C_InvalidRule K) = true) && (decide (PySem.W.findIn K (.ref (x_C_InvalidRule K)) "__setattr__" = some (some (.builtin "object.__setattr__"))) && (decide (PySem.W.subIn K (.ref (x_C_InvalidRule K)) (.type "BaseException") = some true) && (decide (PySem.W.subIn K (.ref (x_C_InvalidRule K)) (.type "ValueError") = some true) && (decide (PySem.W.typeIn K (.ref (x_C_InvalidRule K)) = some (.type "type")) && (decide (PySem.W.keepIn K (.ref (x_C_InvalidRule K)) = true))))))))))))))))))))))))))))))
theorem ck2_ok {K : Frg} (c : ck2 K = true) : (PySem.W.ks_superIn K (x_C_InvalidRow K) (x_C_InvalidRow K) "__init__" = some (some (.builtin "ValueError.__init__"))) ∧ (PySem.W.findIn K (.ref (x_C_InvalidRow K)) "__init__" = some (some (.ref (x_a_InvalidRow___init__ K)))) ∧ (PySem.W.excInitIn K (x_C_InvalidRow K) [.type "ValueError", .type "Exception", .type "BaseException", .type "object"] "ValueError.__new__" = true) ∧ (PySem.W.excOver K (x_C_InvalidRow K) [.type "ValueError", .type "Exception", .type "BaseException", .type "object"] = true) ∧ (PySem.W.hasDictIn K (x_C_InvalidRow K) = true) ∧ (PySem.W.findIn K (.ref (x_C_InvalidRow K)) "__setattr__" = some (some (.builtin "object.__setattr__"))) ∧ (PySem.W.subIn K (.ref (x_C_InvalidRow K)) (.type "BaseException") = some true) ∧ (PySem.W.subIn K (.ref (x_C_InvalidRow K)) (.type "ValueError") = some true) ∧ (PySem.W.typeIn K (.ref (x_C_InvalidRow K)) = some (.type "type")) ∧ (PySem.W.keepIn K (.ref (x_C_InvalidRow K)) = true) ∧ (PySem.W.takerIn K (x_C_InvalidRow K) "value" = some none) ∧ (PySem.W.findIn K (.ref (x_C_InvalidRule K)) "__init__" = some (some (.ref (x_a_InvalidRule___init__ K)))) ∧ (cdQ K (x_a_InvalidRule___init__ K) = .ref (coQ K (x_a_InvalidRule___init__ K))) ∧ (cellQ K (ccQ K (x_a_InvalidRule___init__ K)) = some (.ref (x_C_InvalidRule K))) ∧ (fileQ K (coQ K (x_a_InvalidRule___init__ K)) = some (PySem.Challenge.rw_onlylooks_k92_errors_and_limits).prog.main.file) ∧ (PySem.W.codeIn K (.ref (x_co_InvalidRule___init__ K)) "InvalidRule.__init__" = true) ∧ (PySem.W.keepIn K (.ref (x_a_InvalidRule___init__ K)) = true) ∧ (PySem.W.isFn K (.ref (x_a_InvalidRule___init__ K)) = true) ∧ (PySem.W.mroIn K (x_C_InvalidRule K) (.ref (x_C_InvalidRule K)) = some true) ∧ (PySem.W.nsIn K cStatics "thirdparty.any" = some none) ∧ (PySem.W.ks_superIn K (x_C_InvalidRule K) (x_C_InvalidRule K) "__init__" = some (some (.builtin "ValueError.__init__"))) ∧ (PySem.W.findIn K (.ref (x_C_InvalidRule K)) "__init__" = some (some (.ref (x_a_InvalidRule___init__ K)))) ∧ (PySem.W.excInitIn K (x_C_InvalidRule K) [.type "ValueError", .type "Exception", .type "BaseException", .type "object"] "ValueError.__new__" = true) ∧ (PySem.W.excOver K (x_C_InvalidRule K) [.type "ValueError", .type "Exception", .type "BaseException", .type "object"] = true) ∧ (PySem.W.hasDictIn K (x_C_InvalidRule K) = true) ∧ (PySem.W.findIn K (.ref (x_C_InvalidRule K)) "__setattr__" = some (some (.builtin "object.__setattr__"))) ∧ (PySem.W.subIn K (.ref (x_C_InvalidRule K)) (.type "BaseException") = some true) ∧ (PySem.W.subIn K (.ref (x_C_InvalidRule K)) (.type "ValueError") = some true) ∧ (PySem.W.typeIn K (.ref (x_C_InvalidRule K)) = some (.type "type")) ∧ (PySem.W.keepIn K (.ref (x_C_InvalidRule K)) = true) := by
  unfold ck2 at c
  simp only [Bool.and_eq_true, decide_eq_true_eq] at c
  exact c
def ck3 (K : Frg) : Bool := decide (PySem.W.takerIn K (x_C_InvalidRule K) "argument" = some none) && (decide (PySem.W.findIn K (.ref (x_C_Misfit K)) "__init__" = some (some (.ref (x_a_Misfit___init__ K)))) && (decide (cdQ K (x_a_Misfit___init__ K) = .ref (coQ K (x_a_Misfit___init__ K))) && (decide (cellQ K (ccQ K (x_a_Misfit___init__ K)) = some (.ref (x_C_Misfit K))) && (decide (fileQ K (coQ K (x_a_Misfit___init__ K)) = some (PySem.Challenge.rw_onlylooks_k92_errors_and_limits).prog.main.file) && (decide (PySem.W.codeIn K (.ref (x_co_Misfit___init__ K)) "Misfit.__init__" = true) && (decide (PySem.W.keepIn K (.ref (x_a_Misfit___init__ K)) = true) && (decide (PySem.W.isFn K (.ref (x_a_Misfit___init__ K)) = true) && (decide (PySem.W.mroIn K (x_C_Misfit K) (.ref (x_C_Misfit K)) = some true) && (decide (PySem.W.nsIn K cStatics "thirdparty.any" = some none) && (decide (PySem.W.ks_superIn K (x_C_Misfit K) (x_C_Misfit K) "__init__" = some (some (.builtin "ValueError.__init__"))) && (decide (PySem.W.findIn K (.ref (x_C_Misfit K)) "__init__" = some (some (.ref (x_a_Misfit___init__ K)))) && (decide (PySem.W.excInitIn K (x_C_Misfit K) [.type "ValueError", .type "Exception", .type "BaseException", .type "object"] "ValueError.__new__" = true) && (decide (PySem.W.excOver K (x_C_Misfit K) [.type "ValueError", .type "Exception", .type "BaseException", .type "object"] = true) && (decide (PySem.W.hasDictIn K (x_C_Misfit K) = true) && (decide (PySem.W.findIn K (.ref (x_C_Misfit K)) "__setattr__" = some (some (.builtin "object.__setattr__"))) && (decide (PySem.W.subIn K (.ref (x_C_Misfit K)) (.type "BaseException") = some true) && (decide (PySem.W.subIn K (.ref (x_C_Misfit K)) (.type "ValueError") = some true) && (decide (PySem.W.typeIn K (.ref (x_C_Misfit K)) = some (.type "type")) && (decide (PySem.W.keepIn K (.ref (x_C_Misfit K)) = true) && (decide (PySem.W.takerIn K (x_C_Misfit K) "index" = some none) && (decide (PySem.W.findIn K (.ref (x_C_Circle K)) "__init__" = some (some (.ref (x_a_Circle___init__ K)))) && (decide (cdQ K (x_a_Circle___init__ K) = .ref (coQ K (x_a_Circle___init__ K))) && (decide (cellQ K (ccQ K (x_a_Circle___init__ K)) = some (.ref (x_C_Circle K))) && (decide (fileQ K (coQ K (x_a_Circle___init__ K)) = some (PySem.Challenge.rw_onlylooks_k92_errors_and_limits).prog.main.file) && (decide (PySem.W.codeIn K (.ref (x_co_Circle___init__ K)) "Circle.__init__" = true) && (decide (PySem.W.keepIn K (.ref (x_a_Circle___init__ K)) = true) && (decide (PySem.W.isFn K (.ref (x_a_Circle___init__ K)) = true) && (decide (PySem.W.mroIn K (x_C_Circle K) (.ref (x_C_Circle K)) = some true) && (decide (PySem.W.nsIn K cStatics "thirdparty.any" = some none))))))))))))))))))))))))))))))
theorem ck3_ok {K : Frg} (c : ck3 K = true) : (PySem.W.takerIn K (x_C_InvalidRule K) "argument" = some none) ∧ (PySem.W.findIn K (.ref (x_C_Misfit K)) "__init__" = some (some (.ref (x_a_Misfit___init__ K)))) ∧ (cdQ K (x_a_Misfit___init__ K) = .ref (coQ K (x_a_Misfit___init__ K))) ∧ (cellQ K (ccQ K (x_a_Misfit___init__ K)) = some (.ref (x_C_Misfit K))) ∧ (fileQ K (coQ K (x_a_Misfit___init__ K)) = some (PySem.Challenge.rw_onlylooks_k92_errors_and_limits).prog.main.file) ∧ (PySem.W.codeIn K (.ref (x_co_Misfit___init__ K)) "Misfit.__init__" = true) ∧ (PySem.W.keepIn K (.ref (x_a_Misfit___init__ K)) = true) ∧ (PySem.W.isFn K (.ref (x_a_Misfit___init__ K)) = true) ∧ (PySem.W.mroIn K (x_C_Misfit K) (.ref (x_C_Misfit K)) = some true) ∧ (PySem.W.nsIn K cStatics "thirdparty.any" = some none) ∧ (PySem.W.ks_superIn K (x_C_Misfit K) (x_C_Misfit K) "__init__" = some (some (.builtin "ValueError.__init__"))) ∧ (PySem.W.findIn K (.ref (x_C_Misfit K)) "__init__" = some (some (.ref (x_a_Misfit___init__ K)))) ∧ (PySem.W.excInitIn K (x_C_Misfit K) [.type "ValueError", .type "Exception", .type "BaseException", .type "object"] "ValueError.__new__" = true) ∧ (PySem.W.excOver K (x_C_Misfit K) [.type "ValueError", .type "Exception", .type "BaseException", .type "object"] = true) ∧ (PySem.W.hasDictIn K (x_C_Misfit K) = true) ∧ (PySem.W.findIn K (.ref (x_C_Misfit K)) "__setattr__" = some (some (.builtin "object.__setattr__"))) ∧ (PySem.W.subIn K (.ref (x_C_Misfit K)) (.type "BaseException") = some true) ∧ (PySem.W.subIn K (.ref (x_C_Misfit K)) (.type "ValueError") = some true) ∧ (PySem.W.typeIn K (.ref (x_C_Misfit K)) = some (.type "type")) ∧ (PySem.W.keepIn K (.ref (x_C_Misfit K)) = true) ∧ (PySem.W.takerIn K (x_C_Misfit K) "index" = some none) ∧ (PySem.W.findIn K (.ref (x_C_Circle K)) "__init__" = some (some (.ref (x_a_Circle___init__ K)))) ∧ (cdQ K (x_a_Circle___init__ K) = .ref (coQ K (x_a_Circle___init__ K))) ∧ (cellQ K (ccQ K (x_a_Circle___init__ K)) = some (.ref (x_C_Circle K))) ∧ (fileQ K (coQ K (x_a_Circle___init__ K)) = some (PySem.Challenge.rw_onlylooks_k92_errors_and_limits).prog.main.file) ∧ (PySem.W.codeIn K (.ref (x_co_Circle___init__ K)) "Circle.__init__" = true) ∧ (PySem.W.keepIn K (.ref (x_a_Circle___init__ K)) = true) ∧ (PySem.W.isFn K (.ref (x_a_Circle___init__ K)) = true) ∧ (PySem.W.mroIn K (x_C_Circle K) (.ref (x_C_Circle K)) = some true) ∧ (PySem.W.nsIn K cStatics "thirdparty.any" = some none) := by
  unfold ck3 at c
  simp only [Bool.and_eq_true, decide_eq_true_eq] at c
  exact c
def ck4 (K : Frg) : Bool := decide (PySem.W.ks_superIn K (x_C_Circle K) (x_C_Circle K) "__init__" = some (some (.builtin "ValueError.__init__"))) && (decide (PySem.W.findIn K (.ref (x_C_Circle K)) "__init__" = some (some (.ref (x_a_Circle___init__ K)))) && (decide (PySem.W.excInitIn K (x_C_Circle K) [.type "ValueError", .type "Exception", .type "BaseException", .type "object"] "ValueError.__new__" = true) && (decide (PySem.W.excOver K (x_C_Circle K) [.type "ValueError", .type "Exception", .type "BaseException", .type "object"] = true) && (decide (PySem.W.hasDictIn K (x_C_Circle K) = true) && (decide (PySem.W.findIn K (.ref (x_C_Circle K)) "__setattr__" = some (some (.builtin "object.__setattr__"))) && (decide (PySem.W.subIn K (.ref (x_C_Circle K)) (.type "BaseException") = some true) && (decide (PySem.W.subIn K (.ref (x_C_Circle K)) (.type "ValueError") = some true) && (decide (PySem.W.typeIn K (.ref (x_C_Circle K)) = some (.type "type")) && (decide (PySem.W.keepIn K (.ref (x_C_Circle K)) = true) && (decide (PySem.W.takerIn K (x_C_Circle K) "value" = some none) && (decide (PySem.W.findIn K (.ref (x_C_InvalidFact K)) "__init__" = some (some (.ref (x_a_InvalidFact___init__ K)))) && (decide (cdQ K (x_a_InvalidFact___init__ K) = .ref (coQ K (x_a_InvalidFact___init__ K))) && (decide (cellQ K (ccQ K (x_a_InvalidFact___init__ K)) = some (.ref (x_C_InvalidFact K))) && (decide (fileQ K (coQ K (x_a_InvalidFact___init__ K)) = some (PySem.Challenge.rw_onlylooks_k92_errors_and_limits).prog.main.file) && (decide (PySem.W.codeIn K (.ref (x_co_InvalidFact___init__ K)) "InvalidFact.__init__" = true) && (decide (PySem.W.keepIn K (.ref (x_a_InvalidFact___init__ K)) = true) && (decide (PySem.W.isFn K (.ref (x_a_InvalidFact___init__ K)) = true) && (decide (PySem.W.mroIn K (x_C_InvalidFact K) (.ref (x_C_InvalidFact K)) = some true) && (decide (PySem.W.nsIn K cStatics "thirdparty.any" = some none) && (decide (PySem.W.ks_superIn K (x_C_InvalidFact K) (x_C_InvalidFact K) "__init__" = some (some (.builtin "ValueError.__init__"))) && (decide (PySem.W.findIn K (.ref (x_C_InvalidFact K)) "__init__" = some (some (.ref (x_a_InvalidFact___init__ K)))) && (decide (PySem.W.excInitIn K (x_C_InvalidFact K) [.type "ValueError", .type "Exception", .type "BaseException", .type "object"] "ValueError.__new__" = true) && (decide (PySem.W.excOver K (x_C_InvalidFact K) [.type "ValueError", .type "Exception", .type "BaseException", .type "object"] = true) && (decide (PySem.W.hasDictIn K (x_C_InvalidFact K) = true) && (decide (PySem.W.findIn K (.ref (x_C_InvalidFact K)) "__setattr__" = some (some (.builtin "object.__setattr__"))) && (decide (PySem.W.subIn K (.ref (x_C_InvalidFact K)) (.type "BaseException") = some true) && (decide (PySem.W.subIn K (.ref (x_C_InvalidFact K)) (.type "ValueError") = some true) && (decide (PySem.W.typeIn K (.ref (x_C_InvalidFact K)) = some (.type "type")) && (decide (PySem.W.keepIn K (.ref (x_C_InvalidFact K)) = true))))))))))))))))))))))))))))))
theorem ck4_ok {K : Frg} (c : ck4 K = true) : (PySem.W.ks_superIn K (x_C_Circle K) (x_C_Circle K) "__init__" = some (some (.builtin "ValueError.__init__"))) ∧ (PySem.W.findIn K (.ref (x_C_Circle K)) "__init__" = some (some (.ref (x_a_Circle___init__ K)))) ∧ (PySem.W.excInitIn K (x_C_Circle K) [.type "ValueError", .type "Exception", .type "BaseException", .type "object"] "ValueError.__new__" = true) ∧ (PySem.W.excOver K (x_C_Circle K) [.type "ValueError", .type "Exception", .type "BaseException", .type "object"] = true) ∧ (PySem.W.hasDictIn K (x_C_Circle K) = true) ∧ (PySem.W.findIn K (.ref (x_C_Circle K)) "__setattr__" = some (some (.builtin "object.__setattr__"))) ∧ (PySem.W.subIn K (.ref (x_C_Circle K)) (.type "BaseException") = some true) ∧ (PySem.W.subIn K (.ref (x_C_Circle K)) (.type "ValueError") = some true) ∧ (PySem.W.typeIn K (.ref (x_C_Circle K)) = some (.type "type")) ∧ (PySem.W.keepIn K (.ref (x_C_Circle K)) = true) ∧ (PySem.W.takerIn K (x_C_Circle K) "value" = some none) ∧ (PySem.W.findIn K (.ref (x_C_InvalidFact K)) "__init__" = some (some (.ref (x_a_InvalidFact___init__ K)))) ∧ (cdQ K (x_a_InvalidFact___init__ K) = .ref (coQ K (x_a_InvalidFact___init__ K))) ∧ (cellQ K (ccQ K (x_a_InvalidFact___init__ K)) = some (.ref (x_C_InvalidFact K))) ∧ (fileQ K (coQ K (x_a_InvalidFact___init__ K)) = some (PySem.Challenge.rw_onlylooks_k92_errors_and_limits).prog.main.file) ∧ (PySem.W.codeIn K (.ref (x_co_InvalidFact___init__ K)) "InvalidFact.__init__" = true) ∧ (PySem.W.keepIn K (.ref (x_a_InvalidFact___init__ K)) = true) ∧ (PySem.W.isFn K (.ref (x_a_InvalidFact___init__ K)) = true) ∧ (PySem.W.mroIn K (x_C_InvalidFact K) (.ref (x_C_InvalidFact K)) = some true) ∧ (PySem.W.nsIn K cStatics "thirdparty.any" = some none) ∧ (PySem.W.ks_superIn K (x_C_InvalidFact K) (x_C_InvalidFact K) "__init__" = some (some (.builtin "ValueError.__init__"))) ∧ (PySem.W.findIn K (.ref (x_C_InvalidFact K)) "__init__" = some (some (.ref (x_a_InvalidFact___init__ K)))) ∧ (PySem.W.excInitIn K (x_C_InvalidFact K) [.type "ValueError", .type "Exception", .type "BaseException", .type "object"] "ValueError.__new__" = true) ∧ (PySem.W.excOver K (x_C_InvalidFact K) [.type "ValueError", .type "Exception", .type "BaseException", .type "object"] = true) ∧ (PySem.W.hasDictIn K (x_C_InvalidFact K) = true) ∧ (PySem.W.findIn K (.ref (x_C_InvalidFact K)) "__setattr__" = some (some (.builtin "object.__setattr__"))) ∧ (PySem.W.subIn K (.ref (x_C_InvalidFact K)) (.type "BaseException") = some true) ∧ (PySem.W.subIn K (.ref (x_C_InvalidFact K)) (.type "ValueError") = some true) ∧ (PySem.W.typeIn K (.ref (x_C_InvalidFact K)) = some (.type "type")) ∧ (PySem.W.keepIn K (.ref (x_C_InvalidFact K)) = true) := by
  unfold ck4 at c
  simp only [Bool.and_eq_true, decide_eq_true_eq] at c
  exact c
def ck5 (K : Frg) : Bool := decide (PySem.W.takerIn K (x_C_InvalidFact K) "index" = some none) && (decide (PySem.W.findIn K (.ref (x_C_InvalidChange K)) "__init__" = some (some (.ref (x_a_InvalidChange___init__ K)))) && (decide (cdQ K (x_a_InvalidChange___init__ K) = .ref (coQ K (x_a_InvalidChange___init__ K))) && (decide (cellQ K (ccQ K (x_a_InvalidChange___init__ K)) = some (.ref (x_C_InvalidChange K))) && (decide (fileQ K (coQ K (x_a_InvalidChange___init__ K)) = some (PySem.Challenge.rw_onlylooks_k92_errors_and_limits).prog.main.file) && (decide (PySem.W.codeIn K (.ref (x_co_InvalidChange___init__ K)) "InvalidChange.__init__" = true) && (decide (PySem.W.keepIn K (.ref (x_a_InvalidChange___init__ K)) = true) && (decide (PySem.W.isFn K (.ref (x_a_InvalidChange___init__ K)) = true) && (decide (PySem.W.mroIn K (x_C_InvalidChange K) (.ref (x_C_InvalidChange K)) = some true) && (decide (PySem.W.nsIn K cStatics "thirdparty.any" = some none) && (decide (PySem.W.ks_superIn K (x_C_InvalidChange K) (x_C_InvalidChange K) "__init__" = some (some (.builtin "ValueError.__init__"))) && (decide (PySem.W.findIn K (.ref (x_C_InvalidChange K)) "__init__" = some (some (.ref (x_a_InvalidChange___init__ K)))) && (decide (PySem.W.excInitIn K (x_C_InvalidChange K) [.type "ValueError", .type "Exception", .type "BaseException", .type "object"] "ValueError.__new__" = true) && (decide (PySem.W.excOver K (x_C_InvalidChange K) [.type "ValueError", .type "Exception", .type "BaseException", .type "object"] = true) && (decide (PySem.W.hasDictIn K (x_C_InvalidChange K) = true) && (decide (PySem.W.findIn K (.ref (x_C_InvalidChange K)) "__setattr__" = some (some (.builtin "object.__setattr__"))) && (decide (PySem.W.subIn K (.ref (x_C_InvalidChange K)) (.type "BaseException") = some true) && (decide (PySem.W.subIn K (.ref (x_C_InvalidChange K)) (.type "ValueError") = some true) && (decide (PySem.W.typeIn K (.ref (x_C_InvalidChange K)) = some (.type "type")) && (decide (PySem.W.keepIn K (.ref (x_C_InvalidChange K)) = true) && (decide (PySem.W.takerIn K (x_C_InvalidChange K) "index" = some none) && (decide (PySem.W.findIn K (.ref (x_C_InvalidAnswer K)) "__init__" = some (some (.ref (x_a_InvalidAnswer___init__ K)))) && (decide (cdQ K (x_a_InvalidAnswer___init__ K) = .ref (coQ K (x_a_InvalidAnswer___init__ K))) && (decide (cellQ K (ccQ K (x_a_InvalidAnswer___init__ K)) = some (.ref (x_C_InvalidAnswer K))) && (decide (fileQ K (coQ K (x_a_InvalidAnswer___init__ K)) = some (PySem.Challenge.rw_onlylooks_k92_errors_and_limits).prog.main.file) && (decide (PySem.W.codeIn K (.ref (x_co_InvalidAnswer___init__ K)) "InvalidAnswer.__init__" = true) && (decide (PySem.W.keepIn K (.ref (x_a_InvalidAnswer___init__ K)) = true) && (decide (PySem.W.isFn K (.ref (x_a_InvalidAnswer___init__ K)) = true) && (decide (PySem.W.mroIn K (x_C_InvalidAnswer K) (.ref (x_C_InvalidAnswer K)) = some true) && (decide (PySem.W.nsIn K cStatics "thirdparty.any" = some none))))))))))))))))))))))))))))))
theorem ck5_ok {K : Frg} (c : ck5 K = true) : (PySem.W.takerIn K (x_C_InvalidFact K) "index" = some none) ∧ (PySem.W.findIn K (.ref (x_C_InvalidChange K)) "__init__" = some (some (.ref (x_a_InvalidChange___init__ K)))) ∧ (cdQ K (x_a_InvalidChange___init__ K) = .ref (coQ K (x_a_InvalidChange___init__ K))) ∧ (cellQ K (ccQ K (x_a_InvalidChange___init__ K)) = some (.ref (x_C_InvalidChange K))) ∧ (fileQ K (coQ K (x_a_InvalidChange___init__ K)) = some (PySem.Challenge.rw_onlylooks_k92_errors_and_limits).prog.main.file) ∧ (PySem.W.codeIn K (.ref (x_co_InvalidChange___init__ K)) "InvalidChange.__init__" = true) ∧ (PySem.W.keepIn K (.ref (x_a_InvalidChange___init__ K)) = true) ∧ (PySem.W.isFn K (.ref (x_a_InvalidChange___init__ K)) = true) ∧ (PySem.W.mroIn K (x_C_InvalidChange K) (.ref (x_C_InvalidChange K)) = some true) ∧ (PySem.W.nsIn K cStatics "thirdparty.any" = some none) ∧ (PySem.W.ks_superIn K (x_C_InvalidChange K) (x_C_InvalidChange K) "__init__" = some (some (.builtin "ValueError.__init__"))) ∧ (PySem.W.findIn K (.ref (x_C_InvalidChange K)) "__init__" = some (some (.ref (x_a_InvalidChange___init__ K)))) ∧ (PySem.W.excInitIn K (x_C_InvalidChange K) [.type "ValueError", .type "Exception", .type "BaseException", .type "object"] "ValueError.__new__" = true) ∧ (PySem.W.excOver K (x_C_InvalidChange K) [.type "ValueError", .type "Exception", .type "BaseException", .type "object"] = true) ∧ (PySem.W.hasDictIn K (x_C_InvalidChange K) = true) ∧ (PySem.W.findIn K (.ref (x_C_InvalidChange K)) "__setattr__" = some (some (.builtin "object.__setattr__"))) ∧ (PySem.W.subIn K (.ref (x_C_InvalidChange K)) (.type "BaseException") = some true) ∧ (PySem.W.subIn K (.ref (x_C_InvalidChange K)) (.type "ValueError") = some true) ∧ (PySem.W.typeIn K (.ref (x_C_InvalidChange K)) = some (.type "type")) ∧ (PySem.W.keepIn K (.ref (x_C_InvalidChange K)) = true) ∧ (PySem.W.takerIn K (x_C_InvalidChange K) "index" = some none) ∧ (PySem.W.findIn K (.ref (x_C_InvalidAnswer K)) "__init__" = some (some (.ref (x_a_InvalidAnswer___init__ K)))) ∧ (cdQ K (x_a_InvalidAnswer___init__ K) = .ref (coQ K (x_a_InvalidAnswer___init__ K))) ∧ (cellQ K (ccQ K (x_a_InvalidAnswer___init__ K)) = some (.ref (x_C_InvalidAnswer K))) ∧ (fileQ K (coQ K (x_a_InvalidAnswer___init__ K)) = some (PySem.Challenge.rw_onlylooks_k92_errors_and_limits).prog.main.file) ∧ (PySem.W.codeIn K (.ref (x_co_InvalidAnswer___init__ K)) "InvalidAnswer.__init__" = true) ∧ (PySem.W.keepIn K (.ref (x_a_InvalidAnswer___init__ K)) = true) ∧ (PySem.W.isFn K (.ref (x_a_InvalidAnswer___init__ K)) = true) ∧ (PySem.W.mroIn K (x_C_InvalidAnswer K) (.ref (x_C_InvalidAnswer K)) = some true) ∧ (PySem.W.nsIn K cStatics "thirdparty.any" = some none) := by
  unfold ck5 at c
  simp only [Bool.and_eq_true, decide_eq_true_eq] at c
  exact c
def ck6 (K : Frg) : Bool := decide (PySem.W.ks_superIn K (x_C_InvalidAnswer K) (x_C_InvalidAnswer K) "__init__" = some (some (.builtin "ValueError.__init__"))) && (decide (PySem.W.findIn K (.ref (x_C_InvalidAnswer K)) "__init__" = some (some (.ref (x_a_InvalidAnswer___init__ K)))) && (decide (PySem.W.excInitIn K (x_C_InvalidAnswer K) [.type "ValueError", .type "Exception", .type "BaseException", .type "object"] "ValueError.__new__" = true) && (decide (PySem.W.excOver K (x_C_InvalidAnswer K) [.type "ValueError", .type "Exception", .type "BaseException", .type "object"] = true) && (decide (PySem.W.hasDictIn K (x_C_InvalidAnswer K) = true) && (decide (PySem.W.findIn K (.ref (x_C_InvalidAnswer K)) "__setattr__" = some (some (.builtin "object.__setattr__"))) && (decide (PySem.W.subIn K (.ref (x_C_InvalidAnswer K)) (.type "BaseException") = some true) && (decide (PySem.W.subIn K (.ref (x_C_InvalidAnswer K)) (.type "ValueError") = some true) && (decide (PySem.W.typeIn K (.ref (x_C_InvalidAnswer K)) = some (.type "type")) && (decide (PySem.W.keepIn K (.ref (x_C_InvalidAnswer K)) = true) && (decide (PySem.W.takerIn K (x_C_InvalidAnswer K) "value" = some none) && (decide (PySem.W.findIn K (.ref (x_C_InvalidTemplate K)) "__init__" = some (some (.ref (x_a_InvalidTemplate___init__ K)))) && (decide (cdQ K (x_a_InvalidTemplate___init__ K) = .ref (coQ K (x_a_InvalidTemplate___init__ K))) && (decide (cellQ K (ccQ K (x_a_InvalidTemplate___init__ K)) = some (.ref (x_C_InvalidTemplate K))) && (decide (fileQ K (coQ K (x_a_InvalidTemplate___init__ K)) = some (PySem.Challenge.rw_onlylooks_k92_errors_and_limits).prog.main.file) && (decide (PySem.W.codeIn K (.ref (x_co_InvalidTemplate___init__ K)) "InvalidTemplate.__init__" = true) && (decide (PySem.W.keepIn K (.ref (x_a_InvalidTemplate___init__ K)) = true) && (decide (PySem.W.isFn K (.ref (x_a_InvalidTemplate___init__ K)) = true) && (decide (PySem.W.mroIn K (x_C_InvalidTemplate K) (.ref (x_C_InvalidTemplate K)) = some true) && (decide (PySem.W.nsIn K cStatics "thirdparty.any" = some none) && (decide (PySem.W.ks_superIn K (x_C_InvalidTemplate K) (x_C_InvalidTemplate K) "__init__" = some (some (.builtin "ValueError.__init__"))) && (decide (PySem.W.findIn K (.ref (x_C_InvalidTemplate K)) "__init__" = some (some (.ref (x_a_InvalidTemplate___init__ K)))) && (decide (PySem.W.excInitIn K (x_C_InvalidTemplate K) [.type "ValueError", .type "Exception", .type "BaseException", .type "object"] "ValueError.__new__" = true) && (decide (PySem.W.excOver K (x_C_InvalidTemplate K) [.type "ValueError", .type "Exception", .type "BaseException", .type "object"] = true) && (decide (PySem.W.hasDictIn K (x_C_InvalidTemplate K) = true) && (decide (PySem.W.findIn K (.ref (x_C_InvalidTemplate K)) "__setattr__" = some (some (.builtin "object.__setattr__"))) && (decide (PySem.W.subIn K (.ref (x_C_InvalidTemplate K)) (.type "BaseException") = some true) && (decide (PySem.W.subIn K (.ref (x_C_InvalidTemplate K)) (.type "ValueError") = some true) && (decide (PySem.W.typeIn K (.ref (x_C_InvalidTemplate K)) = some (.type "type")) && (decide (PySem.W.keepIn K (.ref (x_C_InvalidTemplate K)) = true))))))))))))))))))))))))))))))
theorem ck6_ok {K : Frg} (c : ck6 K = true) : (PySem.W.ks_superIn K (x_C_InvalidAnswer K) (x_C_InvalidAnswer K) "__init__" = some (some (.builtin "ValueError.__init__"))) ∧ (PySem.W.findIn K (.ref (x_C_InvalidAnswer K)) "__init__" = some (some (.ref (x_a_InvalidAnswer___init__ K)))) ∧ (PySem.W.excInitIn K (x_C_InvalidAnswer K) [.type "ValueError", .type "Exception", .type "BaseException", .type "object"] "ValueError.__new__" = true) ∧ (PySem.W.excOver K (x_C_InvalidAnswer K) [.type "ValueError", .type "Exception", .type "BaseException", .type "object"] = true) ∧ (PySem.W.hasDictIn K (x_C_InvalidAnswer K) = true) ∧ (PySem.W.findIn K (.ref (x_C_InvalidAnswer K)) "__setattr__" = some (some (.builtin "object.__setattr__"))) ∧ (PySem.W.subIn K (.ref (x_C_InvalidAnswer K)) (.type "BaseException") = some true) ∧ (PySem.W.subIn K (.ref (x_C_InvalidAnswer K)) (.type "ValueError") = some true) ∧ (PySem.W.typeIn K (.ref (x_C_InvalidAnswer K)) = some (.type "type")) ∧ (PySem.W.keepIn K (.ref (x_C_InvalidAnswer K)) = true) ∧ (PySem.W.takerIn K (x_C_InvalidAnswer K) "value" = some none) ∧ (PySem.W.findIn K (.ref (x_C_InvalidTemplate K)) "__init__" = some (some (.ref (x_a_InvalidTemplate___init__ K)))) ∧ (cdQ K (x_a_InvalidTemplate___init__ K) = .ref (coQ K (x_a_InvalidTemplate___init__ K))) ∧ (cellQ K (ccQ K (x_a_InvalidTemplate___init__ K)) = some (.ref (x_C_InvalidTemplate K))) ∧ (fileQ K (coQ K (x_a_InvalidTemplate___init__ K)) = some (PySem.Challenge.rw_onlylooks_k92_errors_and_limits).prog.main.file) ∧ (PySem.W.codeIn K (.ref (x_co_InvalidTemplate___init__ K)) "InvalidTemplate.__init__" = true) ∧ (PySem.W.keepIn K (.ref (x_a_InvalidTemplate___init__ K)) = true) ∧ (PySem.W.isFn K (.ref (x_a_InvalidTemplate___init__ K)) = true) ∧ (PySem.W.mroIn K (x_C_InvalidTemplate K) (.ref (x_C_InvalidTemplate K)) = some true) ∧ (PySem.W.nsIn K cStatics "thirdparty.any" = some none) ∧ (PySem.W.ks_superIn K (x_C_InvalidTemplate K) (x_C_InvalidTemplate K) "__init__" = some (some (.builtin "ValueError.__init__"))) ∧ (PySem.W.findIn K (.ref (x_C_InvalidTemplate K)) "__init__" = some (some (.ref (x_a_InvalidTemplate___init__ K)))) ∧ (PySem.W.excInitIn K (x_C_InvalidTemplate K) [.type "ValueError", .type "Exception", .type "BaseException", .type "object"] "ValueError.__new__" = true) ∧ (PySem.W.excOver K (x_C_InvalidTemplate K) [.type "ValueError", .type "Exception", .type "BaseException", .type "object"] = true) ∧ (PySem.W.hasDictIn K (x_C_InvalidTemplate K) = true) ∧ (PySem.W.findIn K (.ref (x_C_InvalidTemplate K)) "__setattr__" = some (some (.builtin "object.__setattr__"))) ∧ (PySem.W.subIn K (.ref (x_C_InvalidTemplate K)) (.type "BaseException") = some true) ∧ (PySem.W.subIn K (.ref (x_C_InvalidTemplate K)) (.type "ValueError") = some true) ∧ (PySem.W.typeIn K (.ref (x_C_InvalidTemplate K)) = some (.type "type")) ∧ (PySem.W.keepIn K (.ref (x_C_InvalidTemplate K)) = true) := by
  unfold ck6 at c
  simp only [Bool.and_eq_true, decide_eq_true_eq] at c
  exact c
def ck7 (K : Frg) : Bool := decide (PySem.W.takerIn K (x_C_InvalidTemplate K) "index" = some none) && (decide (PySem.W.findIn K (.ref (x_C_InvalidNames K)) "__init__" = some (some (.ref (x_a_InvalidNames___init__ K)))) && (decide (cdQ K (x_a_InvalidNames___init__ K) = .ref (coQ K (x_a_InvalidNames___init__ K))) && (decide (cellQ K (ccQ K (x_a_InvalidNames___init__ K)) = some (.ref (x_C_InvalidNames K))) && (decide (fileQ K (coQ K (x_a_InvalidNames___init__ K)) = some (PySem.Challenge.rw_onlylooks_k92_errors_and_limits).prog.main.file) && (decide (PySem.W.codeIn K (.ref (x_co_InvalidNames___init__ K)) "InvalidNames.__init__" = true) && (decide (PySem.W.keepIn K (.ref (x_a_InvalidNames___init__ K)) = true) && (decide (PySem.W.isFn K (.ref (x_a_InvalidNames___init__ K)) = true) && (decide (PySem.W.mroIn K (x_C_InvalidNames K) (.ref (x_C_InvalidNames K)) = some true) && (decide (PySem.W.nsIn K cStatics "thirdparty.any" = some none) && (decide (PySem.W.ks_superIn K (x_C_InvalidNames K) (x_C_InvalidNames K) "__init__" = some (some (.builtin "ValueError.__init__"))) && (decide (PySem.W.findIn K (.ref (x_C_InvalidNames K)) "__init__" = some (some (.ref (x_a_InvalidNames___init__ K)))) && (decide (PySem.W.excInitIn K (x_C_InvalidNames K) [.type "ValueError", .type "Exception", .type "BaseException", .type "object"] "ValueError.__new__" = true) && (decide (PySem.W.excOver K (x_C_InvalidNames K) [.type "ValueError", .type "Exception", .type "BaseException", .type "object"] = true) && (decide (PySem.W.hasDictIn K (x_C_InvalidNames K) = true) && (decide (PySem.W.findIn K (.ref (x_C_InvalidNames K)) "__setattr__" = some (some (.builtin "object.__setattr__"))) && (decide (PySem.W.subIn K (.ref (x_C_InvalidNames K)) (.type "BaseException") = some true) && (decide (PySem.W.subIn K (.ref (x_C_InvalidNames K)) (.type "ValueError") = some true) && (decide (PySem.W.typeIn K (.ref (x_C_InvalidNames K)) = some (.type "type")) && (decide (PySem.W.keepIn K (.ref (x_C_InvalidNames K)) = true) && (decide (PySem.W.takerIn K (x_C_InvalidNames K) "value" = some none) && (decide (PySem.W.findIn K (.ref (x_C_InvalidLimit K)) "__init__" = some (some (.ref (x_a_InvalidLimit___init__ K)))) && (decide (cdQ K (x_a_InvalidLimit___init__ K) = .ref (coQ K (x_a_InvalidLimit___init__ K))) && (decide (cellQ K (ccQ K (x_a_InvalidLimit___init__ K)) = some (.ref (x_C_InvalidLimit K))) && (decide (fileQ K (coQ K (x_a_InvalidLimit___init__ K)) = some (PySem.Challenge.rw_onlylooks_k92_errors_and_limits).prog.main.file) && (decide (PySem.W.codeIn K (.ref (x_co_InvalidLimit___init__ K)) "InvalidLimit.__init__" = true) && (decide (PySem.W.keepIn K (.ref (x_a_InvalidLimit___init__ K)) = true) && (decide (PySem.W.isFn K (.ref (x_a_InvalidLimit___init__ K)) = true) && (decide (PySem.W.mroIn K (x_C_InvalidLimit K) (.ref (x_C_InvalidLimit K)) = some true) && (decide (PySem.W.nsIn K cStatics "thirdparty.any" = some none))))))))))))))))))))))))))))))
theorem ck7_ok {K : Frg} (c : ck7 K = true) : (PySem.W.takerIn K (x_C_InvalidTemplate K) "index" = some none) ∧ (PySem.W.findIn K (.ref (x_C_InvalidNames K)) "__init__" = some (some (.ref (x_a_InvalidNames___init__ K)))) ∧ (cdQ K (x_a_InvalidNames___init__ K) = .ref (coQ K (x_a_InvalidNames___init__ K))) ∧ (cellQ K (ccQ K (x_a_InvalidNames___init__ K)) = some (.ref (x_C_InvalidNames K))) ∧ (fileQ K (coQ K (x_a_InvalidNames___init__ K)) = some (PySem.Challenge.rw_onlylooks_k92_errors_and_limits).prog.main.file) ∧ (PySem.W.codeIn K (.ref (x_co_InvalidNames___init__ K)) "InvalidNames.__init__" = true) ∧ (PySem.W.keepIn K (.ref (x_a_InvalidNames___init__ K)) = true) ∧ (PySem.W.isFn K (.ref (x_a_InvalidNames___init__ K)) = true) ∧ (PySem.W.mroIn K (x_C_InvalidNames K) (.ref (x_C_InvalidNames K)) = some true) ∧ (PySem.W.nsIn K cStatics "thirdparty.any" = some none) ∧ (PySem.W.ks_superIn K (x_C_InvalidNames K) (x_C_InvalidNames K) "__init__" = some (some (.builtin "ValueError.__init__"))) ∧ (PySem.W.findIn K (.ref (x_C_InvalidNames K)) "__init__" = some (some (.ref (x_a_InvalidNames___init__ K)))) ∧ (PySem.W.excInitIn K (x_C_InvalidNames K) [.type "ValueError", .type "Exception", .type "BaseException", .type "object"] "ValueError.__new__" = true) ∧ (PySem.W.excOver K (x_C_InvalidNames K) [.type "ValueError", .type "Exception", .type "BaseException", .type "object"] = true) ∧ (PySem.W.hasDictIn K (x_C_InvalidNames K) = true) ∧ (PySem.W.findIn K (.ref (x_C_InvalidNames K)) "__setattr__" = some (some (.builtin "object.__setattr__"))) ∧ (PySem.W.subIn K (.ref (x_C_InvalidNames K)) (.type "BaseException") = some true) ∧ (PySem.W.subIn K (.ref (x_C_InvalidNames K)) (.type "ValueError") = some true) ∧ (PySem.W.typeIn K (.ref (x_C_InvalidNames K)) = some (.type "type")) ∧ (PySem.W.keepIn K (.ref (x_C_InvalidNames K)) = true) ∧ (PySem.W.takerIn K (x_C_InvalidNames K) "value" = some none) ∧ (PySem.W.findIn K (.ref (x_C_InvalidLimit K)) "__init__" = some (some (.ref (x_a_InvalidLimit___init__ K)))) ∧ (cdQ K (x_a_InvalidLimit___init__ K) = .ref (coQ K (x_a_InvalidLimit___init__ K))) ∧ (cellQ K (ccQ K (x_a_InvalidLimit___init__ K)) = some (.ref (x_C_InvalidLimit K))) ∧ (fileQ K (coQ K (x_a_InvalidLimit___init__ K)) = some (PySem.Challenge.rw_onlylooks_k92_errors_and_limits).prog.main.file) ∧ (PySem.W.codeIn K (.ref (x_co_InvalidLimit___init__ K)) "InvalidLimit.__init__" = true) ∧ (PySem.W.keepIn K (.ref (x_a_InvalidLimit___init__ K)) = true) ∧ (PySem.W.isFn K (.ref (x_a_InvalidLimit___init__ K)) = true) ∧ (PySem.W.mroIn K (x_C_InvalidLimit K) (.ref (x_C_InvalidLimit K)) = some true) ∧ (PySem.W.nsIn K cStatics "thirdparty.any" = some none) := by
  unfold ck7 at c
  simp only [Bool.and_eq_true, decide_eq_true_eq] at c
  exact c
def ck8 (K : Frg) : Bool := decide (PySem.W.ks_superIn K (x_C_InvalidLimit K) (x_C_InvalidLimit K) "__init__" = some (some (.builtin "ValueError.__init__"))) && (decide (PySem.W.findIn K (.ref (x_C_InvalidLimit K)) "__init__" = some (some (.ref (x_a_InvalidLimit___init__ K)))) && (decide (PySem.W.excInitIn K (x_C_InvalidLimit K) [.type "ValueError", .type "Exception", .type "BaseException", .type "object"] "ValueError.__new__" = true) && (decide (PySem.W.excOver K (x_C_InvalidLimit K) [.type "ValueError", .type "Exception", .type "BaseException", .type "object"] = true) && (decide (PySem.W.hasDictIn K (x_C_InvalidLimit K) = true) && (decide (PySem.W.findIn K (.ref (x_C_InvalidLimit K)) "__setattr__" = some (some (.builtin "object.__setattr__"))) && (decide (PySem.W.subIn K (.ref (x_C_InvalidLimit K)) (.type "BaseException") = some true) && (decide (PySem.W.subIn K (.ref (x_C_InvalidLimit K)) (.type "ValueError") = some true) && (decide (PySem.W.typeIn K (.ref (x_C_InvalidLimit K)) = some (.type "type")) && (decide (PySem.W.keepIn K (.ref (x_C_InvalidLimit K)) = true) && (decide (PySem.W.takerIn K (x_C_InvalidLimit K) "value" = some none) && (decide (PySem.W.findIn K (.ref (x_C_Unreadable K)) "__init__" = some (some (.ref (x_a_Unreadable___init__ K)))) && (decide (cdQ K (x_a_Unreadable___init__ K) = .ref (coQ K (x_a_Unreadable___init__ K))) && (decide (cellQ K (ccQ K (x_a_Unreadable___init__ K)) = some (.ref (x_C_Unreadable K))) && (decide (fileQ K (coQ K (x_a_Unreadable___init__ K)) = some (PySem.Challenge.rw_onlylooks_k92_errors_and_limits).prog.main.file) && (decide (PySem.W.codeIn K (.ref (x_co_Unreadable___init__ K)) "Unreadable.__init__" = true) && (decide (PySem.W.keepIn K (.ref (x_a_Unreadable___init__ K)) = true) && (decide (PySem.W.isFn K (.ref (x_a_Unreadable___init__ K)) = true) && (decide (PySem.W.mroIn K (x_C_Unreadable K) (.ref (x_C_Unreadable K)) = some true) && (decide (PySem.W.nsIn K cStatics "thirdparty.any" = some none) && (decide (PySem.W.ks_superIn K (x_C_Unreadable K) (x_C_Unreadable K) "__init__" = some (some (.builtin "ValueError.__init__"))) && (decide (PySem.W.findIn K (.ref (x_C_Unreadable K)) "__init__" = some (some (.ref (x_a_Unreadable___init__ K)))) && (decide (PySem.W.excInitIn K (x_C_Unreadable K) [.type "ValueError", .type "Exception", .type "BaseException", .type "object"] "ValueError.__new__" = true) && (decide (PySem.W.excOver K (x_C_Unreadable K) [.type "ValueError", .type "Exception", .type "BaseException", .type "object"] = true) && (decide (PySem.W.hasDictIn K (x_C_Unreadable K) = true) && (decide (PySem.W.findIn K (.ref (x_C_Unreadable K)) "__setattr__" = some (some (.builtin "object.__setattr__"))) && (decide (PySem.W.subIn K (.ref (x_C_Unreadable K)) (.type "BaseException") = some true) && (decide (PySem.W.subIn K (.ref (x_C_Unreadable K)) (.type "ValueError") = some true) && (decide (PySem.W.typeIn K (.ref (x_C_Unreadable K)) = some (.type "type")) && (decide (PySem.W.keepIn K (.ref (x_C_Unreadable K)) = true))))))))))))))))))))))))))))))
theorem ck8_ok {K : Frg} (c : ck8 K = true) : (PySem.W.ks_superIn K (x_C_InvalidLimit K) (x_C_InvalidLimit K) "__init__" = some (some (.builtin "ValueError.__init__"))) ∧ (PySem.W.findIn K (.ref (x_C_InvalidLimit K)) "__init__" = some (some (.ref (x_a_InvalidLimit___init__ K)))) ∧ (PySem.W.excInitIn K (x_C_InvalidLimit K) [.type "ValueError", .type "Exception", .type "BaseException", .type "object"] "ValueError.__new__" = true) ∧ (PySem.W.excOver K (x_C_InvalidLimit K) [.type "ValueError", .type "Exception", .type "BaseException", .type "object"] = true) ∧ (PySem.W.hasDictIn K (x_C_InvalidLimit K) = true) ∧ (PySem.W.findIn K (.ref (x_C_InvalidLimit K)) "__setattr__" = some (some (.builtin "object.__setattr__"))) ∧ (PySem.W.subIn K (.ref (x_C_InvalidLimit K)) (.type "BaseException") = some true) ∧ (PySem.W.subIn K (.ref (x_C_InvalidLimit K)) (.type "ValueError") = some true) ∧ (PySem.W.typeIn K (.ref (x_C_InvalidLimit K)) = some (.type "type")) ∧ (PySem.W.keepIn K (.ref (x_C_InvalidLimit K)) = true) ∧ (PySem.W.takerIn K (x_C_InvalidLimit K) "value" = some none) ∧ (PySem.W.findIn K (.ref (x_C_Unreadable K)) "__init__" = some (some (.ref (x_a_Unreadable___init__ K)))) ∧ (cdQ K (x_a_Unreadable___init__ K) = .ref (coQ K (x_a_Unreadable___init__ K))) ∧ (cellQ K (ccQ K (x_a_Unreadable___init__ K)) = some (.ref (x_C_Unreadable K))) ∧ (fileQ K (coQ K (x_a_Unreadable___init__ K)) = some (PySem.Challenge.rw_onlylooks_k92_errors_and_limits).prog.main.file) ∧ (PySem.W.codeIn K (.ref (x_co_Unreadable___init__ K)) "Unreadable.__init__" = true) ∧ (PySem.W.keepIn K (.ref (x_a_Unreadable___init__ K)) = true) ∧ (PySem.W.isFn K (.ref (x_a_Unreadable___init__ K)) = true) ∧ (PySem.W.mroIn K (x_C_Unreadable K) (.ref (x_C_Unreadable K)) = some true) ∧ (PySem.W.nsIn K cStatics "thirdparty.any" = some none) ∧ (PySem.W.ks_superIn K (x_C_Unreadable K) (x_C_Unreadable K) "__init__" = some (some (.builtin "ValueError.__init__"))) ∧ (PySem.W.findIn K (.ref (x_C_Unreadable K)) "__init__" = some (some (.ref (x_a_Unreadable___init__ K)))) ∧ (PySem.W.excInitIn K (x_C_Unreadable K) [.type "ValueError", .type "Exception", .type "BaseException", .type "object"] "ValueError.__new__" = true) ∧ (PySem.W.excOver K (x_C_Unreadable K) [.type "ValueError", .type "Exception", .type "BaseException", .type "object"] = true) ∧ (PySem.W.hasDictIn K (x_C_Unreadable K) = true) ∧ (PySem.W.findIn K (.ref (x_C_Unreadable K)) "__setattr__" = some (some (.builtin "object.__setattr__"))) ∧ (PySem.W.subIn K (.ref (x_C_Unreadable K)) (.type "BaseException") = some true) ∧ (PySem.W.subIn K (.ref (x_C_Unreadable K)) (.type "ValueError") = some true) ∧ (PySem.W.typeIn K (.ref (x_C_Unreadable K)) = some (.type "type")) ∧ (PySem.W.keepIn K (.ref (x_C_Unreadable K)) = true) := by
  unfold ck8 at c
  simp only [Bool.and_eq_true, decide_eq_true_eq] at c
  exact c
def ck9 (K : Frg) : Bool := decide (PySem.W.takerIn K (x_C_Unreadable K) "index" = some none) && (decide (PySem.W.findIn K (.ref (x_C_UnknownTable K)) "__init__" = some (some (.ref (x_a_UnknownTable___init__ K)))) && (decide (cdQ K (x_a_UnknownTable___init__ K) = .ref (coQ K (x_a_UnknownTable___init__ K))) && (decide (cellQ K (ccQ K (x_a_UnknownTable___init__ K)) = some (.ref (x_C_UnknownTable K))) && (decide (fileQ K (coQ K (x_a_UnknownTable___init__ K)) = some (PySem.Challenge.rw_onlylooks_k92_errors_and_limits).prog.main.file) && (decide (PySem.W.codeIn K (.ref (x_co_UnknownTable___init__ K)) "UnknownTable.__init__" = true) && (decide (PySem.W.keepIn K (.ref (x_a_UnknownTable___init__ K)) = true) && (decide (PySem.W.isFn K (.ref (x_a_UnknownTable___init__ K)) = true) && (decide (PySem.W.mroIn K (x_C_UnknownTable K) (.ref (x_C_UnknownTable K)) = some true) && (decide (PySem.W.nsIn K cStatics "thirdparty.any" = some none) && (decide (PySem.W.ks_superIn K (x_C_UnknownTable K) (x_C_UnknownTable K) "__init__" = some (some (.builtin "LookupError.__init__"))) && (decide (PySem.W.findIn K (.ref (x_C_UnknownTable K)) "__init__" = some (some (.ref (x_a_UnknownTable___init__ K)))) && (decide (PySem.W.excInitIn K (x_C_UnknownTable K) [.type "LookupError", .type "Exception", .type "BaseException", .type "object"] "LookupError.__new__" = true) && (decide (PySem.W.excOver K (x_C_UnknownTable K) [.type "LookupError", .type "Exception", .type "BaseException", .type "object"] = true) && (decide (PySem.W.hasDictIn K (x_C_UnknownTable K) = true) && (decide (PySem.W.findIn K (.ref (x_C_UnknownTable K)) "__setattr__" = some (some (.builtin "object.__setattr__"))) && (decide (PySem.W.subIn K (.ref (x_C_UnknownTable K)) (.type "BaseException") = some true) && (decide (PySem.W.subIn K (.ref (x_C_UnknownTable K)) (.type "LookupError") = some true) && (decide (PySem.W.typeIn K (.ref (x_C_UnknownTable K)) = some (.type "type")) && (decide (PySem.W.keepIn K (.ref (x_C_UnknownTable K)) = true) && (decide (PySem.W.takerIn K (x_C_UnknownTable K) "value" = some none) && (decide (PySem.W.findIn K (.ref (x_C_UnknownColumn K)) "__init__" = some (some (.ref (x_a_UnknownColumn___init__ K)))) && (decide (cdQ K (x_a_UnknownColumn___init__ K) = .ref (coQ K (x_a_UnknownColumn___init__ K))) && (decide (cellQ K (ccQ K (x_a_UnknownColumn___init__ K)) = some (.ref (x_C_UnknownColumn K))) && (decide (fileQ K (coQ K (x_a_UnknownColumn___init__ K)) = some (PySem.Challenge.rw_onlylooks_k92_errors_and_limits).prog.main.file) && (decide (PySem.W.codeIn K (.ref (x_co_UnknownColumn___init__ K)) "UnknownColumn.__init__" = true) && (decide (PySem.W.keepIn K (.ref (x_a_UnknownColumn___init__ K)) = true) && (decide (PySem.W.isFn K (.ref (x_a_UnknownColumn___init__ K)) = true) && (decide (PySem.W.mroIn K (x_C_UnknownColumn K) (.ref (x_C_UnknownColumn K)) = some true) && (decide (PySem.W.nsIn K cStatics "thirdparty.any" = some none))))))))))))))))))))))))))))))
theorem ck9_ok {K : Frg} (c : ck9 K = true) : (PySem.W.takerIn K (x_C_Unreadable K) "index" = some none) ∧ (PySem.W.findIn K (.ref (x_C_UnknownTable K)) "__init__" = some (some (.ref (x_a_UnknownTable___init__ K)))) ∧ (cdQ K (x_a_UnknownTable___init__ K) = .ref (coQ K (x_a_UnknownTable___init__ K))) ∧ (cellQ K (ccQ K (x_a_UnknownTable___init__ K)) = some (.ref (x_C_UnknownTable K))) ∧ (fileQ K (coQ K (x_a_UnknownTable___init__ K)) = some (PySem.Challenge.rw_onlylooks_k92_errors_and_limits).prog.main.file) ∧ (PySem.W.codeIn K (.ref (x_co_UnknownTable___init__ K)) "UnknownTable.__init__" = true) ∧ (PySem.W.keepIn K (.ref (x_a_UnknownTable___init__ K)) = true) ∧ (PySem.W.isFn K (.ref (x_a_UnknownTable___init__ K)) = true) ∧ (PySem.W.mroIn K (x_C_UnknownTable K) (.ref (x_C_UnknownTable K)) = some true) ∧ (PySem.W.nsIn K cStatics "thirdparty.any" = some none) ∧ (PySem.W.ks_superIn K (x_C_UnknownTable K) (x_C_UnknownTable K) "__init__" = some (some (.builtin "LookupError.__init__"))) ∧ (PySem.W.findIn K (.ref (x_C_UnknownTable K)) "__init__" = some (some (.ref (x_a_UnknownTable___init__ K)))) ∧ (PySem.W.excInitIn K (x_C_UnknownTable K) [.type "LookupError", .type "Exception", .type "BaseException", .type "object"] "LookupError.__new__" = true) ∧ (PySem.W.excOver K (x_C_UnknownTable K) [.type "LookupError", .type "Exception", .type "BaseException", .type "object"] = true) ∧ (PySem.W.hasDictIn K (x_C_UnknownTable K) = true) ∧ (PySem.W.findIn K (.ref (x_C_UnknownTable K)) "__setattr__" = some (some (.builtin "object.__setattr__"))) ∧ (PySem.W.subIn K (.ref (x_C_UnknownTable K)) (.type "BaseException") = some true) ∧ (PySem.W.subIn K (.ref (x_C_UnknownTable K)) (.type "LookupError") = some true) ∧ (PySem.W.typeIn K (.ref (x_C_UnknownTable K)) = some (.type "type")) ∧ (PySem.W.keepIn K (.ref (x_C_UnknownTable K)) = true) ∧ (PySem.W.takerIn K (x_C_UnknownTable K) "value" = some none) ∧ (PySem.W.findIn K (.ref (x_C_UnknownColumn K)) "__init__" = some (some (.ref (x_a_UnknownColumn___init__ K)))) ∧ (cdQ K (x_a_UnknownColumn___init__ K) = .ref (coQ K (x_a_UnknownColumn___init__ K))) ∧ (cellQ K (ccQ K (x_a_UnknownColumn___init__ K)) = some (.ref (x_C_UnknownColumn K))) ∧ (fileQ K (coQ K (x_a_UnknownColumn___init__ K)) = some (PySem.Challenge.rw_onlylooks_k92_errors_and_limits).prog.main.file) ∧ (PySem.W.codeIn K (.ref (x_co_UnknownColumn___init__ K)) "UnknownColumn.__init__" = true) ∧ (PySem.W.keepIn K (.ref (x_a_UnknownColumn___init__ K)) = true) ∧ (PySem.W.isFn K (.ref (x_a_UnknownColumn___init__ K)) = true) ∧ (PySem.W.mroIn K (x_C_UnknownColumn K) (.ref (x_C_UnknownColumn K)) = some true) ∧ (PySem.W.nsIn K cStatics "thirdparty.any" = some none) := by
  unfold ck9 at c
  simp only [Bool.and_eq_true, decide_eq_true_eq] at c
  exact c
def ck10 (K : Frg) : Bool := decide (PySem.W.ks_superIn K (x_C_UnknownColumn K) (x_C_UnknownColumn K) "__init__" = some (some (.builtin "LookupError.__init__"))) && (decide (PySem.W.findIn K (.ref (x_C_UnknownColumn K)) "__init__" = some (some (.ref (x_a_UnknownColumn___init__ K)))) && (decide (PySem.W.excInitIn K (x_C_UnknownColumn K) [.type "LookupError", .type "Exception", .type "BaseException", .type "object"] "LookupError.__new__" = true) && (decide (PySem.W.excOver K (x_C_UnknownColumn K) [.type "LookupError", .type "Exception", .type "BaseException", .type "object"] = true) && (decide (PySem.W.hasDictIn K (x_C_UnknownColumn K) = true) && (decide (PySem.W.findIn K (.ref (x_C_UnknownColumn K)) "__setattr__" = some (some (.builtin "object.__setattr__"))) && (decide (PySem.W.subIn K (.ref (x_C_UnknownColumn K)) (.type "BaseException") = some true) && (decide (PySem.W.subIn K (.ref (x_C_UnknownColumn K)) (.type "LookupError") = some true) && (decide (PySem.W.typeIn K (.ref (x_C_UnknownColumn K)) = some (.type "type")) && (decide (PySem.W.keepIn K (.ref (x_C_UnknownColumn K)) = true) && (decide (PySem.W.takerIn K (x_C_UnknownColumn K) "value" = some none) && (decide (PySem.W.findIn K (.ref (x_C_OutOfRange K)) "__init__" = some (some (.ref (x_a_OutOfRange___init__ K)))) && (decide (cdQ K (x_a_OutOfRange___init__ K) = .ref (coQ K (x_a_OutOfRange___init__ K))) && (decide (cellQ K (ccQ K (x_a_OutOfRange___init__ K)) = some (.ref (x_C_OutOfRange K))) && (decide (fileQ K (coQ K (x_a_OutOfRange___init__ K)) = some (PySem.Challenge.rw_onlylooks_k92_errors_and_limits).prog.main.file) && (decide (PySem.W.codeIn K (.ref (x_co_OutOfRange___init__ K)) "OutOfRange.__init__" = true) && (decide (PySem.W.keepIn K (.ref (x_a_OutOfRange___init__ K)) = true) && (decide (PySem.W.isFn K (.ref (x_a_OutOfRange___init__ K)) = true) && (decide (PySem.W.mroIn K (x_C_OutOfRange K) (.ref (x_C_OutOfRange K)) = some true) && (decide (PySem.W.nsIn K cStatics "thirdparty.any" = some none) && (decide (PySem.W.ks_superIn K (x_C_OutOfRange K) (x_C_OutOfRange K) "__init__" = some (some (.builtin "LookupError.__init__"))) && (decide (PySem.W.findIn K (.ref (x_C_OutOfRange K)) "__init__" = some (some (.ref (x_a_OutOfRange___init__ K)))) && (decide (PySem.W.excInitIn K (x_C_OutOfRange K) [.type "LookupError", .type "Exception", .type "BaseException", .type "object"] "LookupError.__new__" = true) && (decide (PySem.W.excOver K (x_C_OutOfRange K) [.type "LookupError", .type "Exception", .type "BaseException", .type "object"] = true) && (decide (PySem.W.hasDictIn K (x_C_OutOfRange K) = true) && (decide (PySem.W.findIn K (.ref (x_C_OutOfRange K)) "__setattr__" = some (some (.builtin "object.__setattr__"))) && (decide (PySem.W.subIn K (.ref (x_C_OutOfRange K)) (.type "BaseException") = some true) && (decide (PySem.W.subIn K (.ref (x_C_OutOfRange K)) (.type "LookupError") = some true) && (decide (PySem.W.typeIn K (.ref (x_C_OutOfRange K)) = some (.type "type")) && (decide (PySem.W.keepIn K (.ref (x_C_OutOfRange K)) = true))))))))))))))))))))))))))))))
theorem ck10_ok {K : Frg} (c : ck10 K = true) : (PySem.W.ks_superIn K (x_C_UnknownColumn K) (x_C_UnknownColumn K) "__init__" = some (some (.builtin "LookupError.__init__"))) ∧ (PySem.W.findIn K (.ref (x_C_UnknownColumn K)) "__init__" = some (some (.ref (x_a_UnknownColumn___init__ K)))) ∧ (PySem.W.excInitIn K (x_C_UnknownColumn K) [.type "LookupError", .type "Exception", .type "BaseException", .type "object"] "LookupError.__new__" = true) ∧ (PySem.W.excOver K (x_C_UnknownColumn K) [.type "LookupError", .type "Exception", .type "BaseException", .type "object"] = true) ∧ (PySem.W.hasDictIn K (x_C_UnknownColumn K) = true) ∧ (PySem.W.findIn K (.ref (x_C_UnknownColumn K)) "__setattr__" = some (some (.builtin "object.__setattr__"))) ∧ (PySem.W.subIn K (.ref (x_C_UnknownColumn K)) (.type "BaseException") = some true) ∧ (PySem.W.subIn K (.ref (x_C_UnknownColumn K)) (.type "LookupError") = some true) ∧ (PySem.W.typeIn K (.ref (x_C_UnknownColumn K)) = some (.type "type")) ∧ (PySem.W.keepIn K (.ref (x_C_UnknownColumn K)) = true) ∧ (PySem.W.takerIn K (x_C_UnknownColumn K) "value" = some none) ∧ (PySem.W.findIn K (.ref (x_C_OutOfRange K)) "__init__" = some (some (.ref (x_a_OutOfRange___init__ K)))) ∧ (cdQ K (x_a_OutOfRange___init__ K) = .ref (coQ K (x_a_OutOfRange___init__ K))) ∧ (cellQ K (ccQ K (x_a_OutOfRange___init__ K)) = some (.ref (x_C_OutOfRange K))) ∧ (fileQ K (coQ K (x_a_OutOfRange___init__ K)) = some (PySem.Challenge.rw_onlylooks_k92_errors_and_limits).prog.main.file) ∧ (PySem.W.codeIn K (.ref (x_co_OutOfRange___init__ K)) "OutOfRange.__init__" = true) ∧ (PySem.W.keepIn K (.ref (x_a_OutOfRange___init__ K)) = true) ∧ (PySem.W.isFn K (.ref (x_a_OutOfRange___init__ K)) = true) ∧ (PySem.W.mroIn K (x_C_OutOfRange K) (.ref (x_C_OutOfRange K)) = some true) ∧ (PySem.W.nsIn K cStatics "thirdparty.any" = some none) ∧ (PySem.W.ks_superIn K (x_C_OutOfRange K) (x_C_OutOfRange K) "__init__" = some (some (.builtin "LookupError.__init__"))) ∧ (PySem.W.findIn K (.ref (x_C_OutOfRange K)) "__init__" = some (some (.ref (x_a_OutOfRange___init__ K)))) ∧ (PySem.W.excInitIn K (x_C_OutOfRange K) [.type "LookupError", .type "Exception", .type "BaseException", .type "object"] "LookupError.__new__" = true) ∧ (PySem.W.excOver K (x_C_OutOfRange K) [.type "LookupError", .type "Exception", .type "BaseException", .type "object"] = true) ∧ (PySem.W.hasDictIn K (x_C_OutOfRange K) = true) ∧ (PySem.W.findIn K (.ref (x_C_OutOfRange K)) "__setattr__" = some (some (.builtin "object.__setattr__"))) ∧ (PySem.W.subIn K (.ref (x_C_OutOfRange K)) (.type "BaseException") = some true) ∧ (PySem.W.subIn K (.ref (x_C_OutOfRange K)) (.type "LookupError") = some true) ∧ (PySem.W.typeIn K (.ref (x_C_OutOfRange K)) = some (.type "type")) ∧ (PySem.W.keepIn K (.ref (x_C_OutOfRange K)) = true) := by
  unfold ck10 at c
  simp only [Bool.and_eq_true, decide_eq_true_eq] at c
  exact c
def ck11 (K : Frg) : Bool := decide (PySem.W.takerIn K (x_C_OutOfRange K) "value" = some none) && (decide (PySem.W.findIn K (.ref (x_C_NoAnswer K)) "__init__" = some (some (.ref (x_a_NoAnswer___init__ K)))) && (decide (cdQ K (x_a_NoAnswer___init__ K) = .ref (coQ K (x_a_NoAnswer___init__ K))) && (decide (cellQ K (ccQ K (x_a_NoAnswer___init__ K)) = some (.ref (x_C_NoAnswer K))) && (decide (fileQ K (coQ K (x_a_NoAnswer___init__ K)) = some (PySem.Challenge.rw_onlylooks_k92_errors_and_limits).prog.main.file) && (decide (PySem.W.codeIn K (.ref (x_co_NoAnswer___init__ K)) "NoAnswer.__init__" = true) && (decide (PySem.W.keepIn K (.ref (x_a_NoAnswer___init__ K)) = true) && (decide (PySem.W.isFn K (.ref (x_a_NoAnswer___init__ K)) = true) && (decide (PySem.W.mroIn K (x_C_NoAnswer K) (.ref (x_C_NoAnswer K)) = some true) && (decide (PySem.W.nsIn K cStatics "thirdparty.any" = some none) && (decide (PySem.W.ks_superIn K (x_C_NoAnswer K) (x_C_NoAnswer K) "__init__" = some (some (.builtin "LookupError.__init__"))) && (decide (PySem.W.findIn K (.ref (x_C_NoAnswer K)) "__init__" = some (some (.ref (x_a_NoAnswer___init__ K)))) && (decide (PySem.W.excInitIn K (x_C_NoAnswer K) [.type "LookupError", .type "Exception", .type "BaseException", .type "object"] "LookupError.__new__" = true) && (decide (PySem.W.excOver K (x_C_NoAnswer K) [.type "LookupError", .type "Exception", .type "BaseException", .type "object"] = true) && (decide (PySem.W.hasDictIn K (x_C_NoAnswer K) = true) && (decide (PySem.W.findIn K (.ref (x_C_NoAnswer K)) "__setattr__" = some (some (.builtin "object.__setattr__"))) && (decide (PySem.W.subIn K (.ref (x_C_NoAnswer K)) (.type "BaseException") = some true) && (decide (PySem.W.subIn K (.ref (x_C_NoAnswer K)) (.type "LookupError") = some true) && (decide (PySem.W.typeIn K (.ref (x_C_NoAnswer K)) = some (.type "type")) && (decide (PySem.W.keepIn K (.ref (x_C_NoAnswer K)) = true) && (decide (PySem.W.takerIn K (x_C_NoAnswer K) "value" = some none) && (decide (PySem.W.findIn K (.ref (x_C_NoCase K)) "__init__" = some (some (.ref (x_a_NoCase___init__ K)))) && (decide (cdQ K (x_a_NoCase___init__ K) = .ref (coQ K (x_a_NoCase___init__ K))) && (decide (cellQ K (ccQ K (x_a_NoCase___init__ K)) = some (.ref (x_C_NoCase K))) && (decide (fileQ K (coQ K (x_a_NoCase___init__ K)) = some (PySem.Challenge.rw_onlylooks_k92_errors_and_limits).prog.main.file) && (decide (PySem.W.codeIn K (.ref (x_co_NoCase___init__ K)) "NoCase.__init__" = true) && (decide (PySem.W.keepIn K (.ref (x_a_NoCase___init__ K)) = true) && (decide (PySem.W.isFn K (.ref (x_a_NoCase___init__ K)) = true) && (decide (PySem.W.mroIn K (x_C_NoCase K) (.ref (x_C_NoCase K)) = some true) && (decide (PySem.W.nsIn K cStatics "thirdparty.any" = some none))))))))))))))))))))))))))))))
theorem ck11_ok {K : Frg} (c : ck11 K = true) : (PySem.W.takerIn K (x_C_OutOfRange K) "value" = some none) ∧ (PySem.W.findIn K (.ref (x_C_NoAnswer K)) "__init__" = some (some (.ref (x_a_NoAnswer___init__ K)))) ∧ (cdQ K (x_a_NoAnswer___init__ K) = .ref (coQ K (x_a_NoAnswer___init__ K))) ∧ (cellQ K (ccQ K (x_a_NoAnswer___init__ K)) = some (.ref (x_C_NoAnswer K))) ∧ (fileQ K (coQ K (x_a_NoAnswer___init__ K)) = some (PySem.Challenge.rw_onlylooks_k92_errors_and_limits).prog.main.file) ∧ (PySem.W.codeIn K (.ref (x_co_NoAnswer___init__ K)) "NoAnswer.__init__" = true) ∧ (PySem.W.keepIn K (.ref (x_a_NoAnswer___init__ K)) = true) ∧ (PySem.W.isFn K (.ref (x_a_NoAnswer___init__ K)) = true) ∧ (PySem.W.mroIn K (x_C_NoAnswer K) (.ref (x_C_NoAnswer K)) = some true) ∧ (PySem.W.nsIn K cStatics "thirdparty.any" = some none) ∧ (PySem.W.ks_superIn K (x_C_NoAnswer K) (x_C_NoAnswer K) "__init__" = some (some (.builtin "LookupError.__init__"))) ∧ (PySem.W.findIn K (.ref (x_C_NoAnswer K)) "__init__" = some (some (.ref (x_a_NoAnswer___init__ K)))) ∧ (PySem.W.excInitIn K (x_C_NoAnswer K) [.type "LookupError", .type "Exception", .type "BaseException", .type "object"] "LookupError.__new__" = true) ∧ (PySem.W.excOver K (x_C_NoAnswer K) [.type "LookupError", .type "Exception", .type "BaseException", .type "object"] = true) ∧ (PySem.W.hasDictIn K (x_C_NoAnswer K) = true) ∧ (PySem.W.findIn K (.ref (x_C_NoAnswer K)) "__setattr__" = some (some (.builtin "object.__setattr__"))) ∧ (PySem.W.subIn K (.ref (x_C_NoAnswer K)) (.type "BaseException") = some true) ∧ (PySem.W.subIn K (.ref (x_C_NoAnswer K)) (.type "LookupError") = some true) ∧ (PySem.W.typeIn K (.ref (x_C_NoAnswer K)) = some (.type "type")) ∧ (PySem.W.keepIn K (.ref (x_C_NoAnswer K)) = true) ∧ (PySem.W.takerIn K (x_C_NoAnswer K) "value" = some none) ∧ (PySem.W.findIn K (.ref (x_C_NoCase K)) "__init__" = some (some (.ref (x_a_NoCase___init__ K)))) ∧ (cdQ K (x_a_NoCase___init__ K) = .ref (coQ K (x_a_NoCase___init__ K))) ∧ (cellQ K (ccQ K (x_a_NoCase___init__ K)) = some (.ref (x_C_NoCase K))) ∧ (fileQ K (coQ K (x_a_NoCase___init__ K)) = some (PySem.Challenge.rw_onlylooks_k92_errors_and_limits).prog.main.file) ∧ (PySem.W.codeIn K (.ref (x_co_NoCase___init__ K)) "NoCase.__init__" = true) ∧ (PySem.W.keepIn K (.ref (x_a_NoCase___init__ K)) = true) ∧ (PySem.W.isFn K (.ref (x_a_NoCase___init__ K)) = true) ∧ (PySem.W.mroIn K (x_C_NoCase K) (.ref (x_C_NoCase K)) = some true) ∧ (PySem.W.nsIn K cStatics "thirdparty.any" = some none) := by
  unfold ck11 at c
  simp only [Bool.and_eq_true, decide_eq_true_eq] at c
  exact c
def ck12 (K : Frg) : Bool := decide (PySem.W.ks_superIn K (x_C_NoCase K) (x_C_NoCase K) "__init__" = some (some (.builtin "LookupError.__init__"))) && (decide (PySem.W.findIn K (.ref (x_C_NoCase K)) "__init__" = some (some (.ref (x_a_NoCase___init__ K)))) && (decide (PySem.W.excInitIn K (x_C_NoCase K) [.type "LookupError", .type "Exception", .type "BaseException", .type "object"] "LookupError.__new__" = true) && (decide (PySem.W.excOver K (x_C_NoCase K) [.type "LookupError", .type "Exception", .type "BaseException", .type "object"] = true) && (decide (PySem.W.hasDictIn K (x_C_NoCase K) = true) && (decide (PySem.W.findIn K (.ref (x_C_NoCase K)) "__setattr__" = some (some (.builtin "object.__setattr__"))) && (decide (PySem.W.subIn K (.ref (x_C_NoCase K)) (.type "BaseException") = some true) && (decide (PySem.W.subIn K (.ref (x_C_NoCase K)) (.type "LookupError") = some true) && (decide (PySem.W.typeIn K (.ref (x_C_NoCase K)) = some (.type "type")) && (decide (PySem.W.keepIn K (.ref (x_C_NoCase K)) = true) && (decide (PySem.W.takerIn K (x_C_NoCase K) "case" = some none) && (decide (PySem.W.findIn K (.ref (x_C_NoBranch K)) "__init__" = some (some (.ref (x_a_NoBranch___init__ K)))) && (decide (cdQ K (x_a_NoBranch___init__ K) = .ref (coQ K (x_a_NoBranch___init__ K))) && (decide (cellQ K (ccQ K (x_a_NoBranch___init__ K)) = some (.ref (x_C_NoBranch K))) && (decide (fileQ K (coQ K (x_a_NoBranch___init__ K)) = some (PySem.Challenge.rw_onlylooks_k92_errors_and_limits).prog.main.file) && (decide (PySem.W.codeIn K (.ref (x_co_NoBranch___init__ K)) "NoBranch.__init__" = true) && (decide (PySem.W.keepIn K (.ref (x_a_NoBranch___init__ K)) = true) && (decide (PySem.W.isFn K (.ref (x_a_NoBranch___init__ K)) = true) && (decide (PySem.W.mroIn K (x_C_NoBranch K) (.ref (x_C_NoBranch K)) = some true) && (decide (PySem.W.nsIn K cStatics "thirdparty.any" = some none) && (decide (PySem.W.ks_superIn K (x_C_NoBranch K) (x_C_NoBranch K) "__init__" = some (some (.builtin "LookupError.__init__"))) && (decide (PySem.W.findIn K (.ref (x_C_NoBranch K)) "__init__" = some (some (.ref (x_a_NoBranch___init__ K)))) && (decide (PySem.W.excInitIn K (x_C_NoBranch K) [.type "LookupError", .type "Exception", .type "BaseException", .type "object"] "LookupError.__new__" = true) && (decide (PySem.W.excOver K (x_C_NoBranch K) [.type "LookupError", .type "Exception", .type "BaseException", .type "object"] = true) && (decide (PySem.W.hasDictIn K (x_C_NoBranch K) = true) && (decide (PySem.W.findIn K (.ref (x_C_NoBranch K)) "__setattr__" = some (some (.builtin "object.__setattr__"))) && (decide (PySem.W.subIn K (.ref (x_C_NoBranch K)) (.type "BaseException") = some true) && (decide (PySem.W.subIn K (.ref (x_C_NoBranch K)) (.type "LookupError") = some true) && (decide (PySem.W.typeIn K (.ref (x_C_NoBranch K)) = some (.type "type")) && (decide (PySem.W.keepIn K (.ref (x_C_NoBranch K)) = true))))))))))))))))))))))))))))))
theorem ck12_ok {K : Frg} (c : ck12 K = true) : (PySem.W.ks_superIn K (x_C_NoCase K) (x_C_NoCase K) "__init__" = some (some (.builtin "LookupError.__init__"))) ∧ (PySem.W.findIn K (.ref (x_C_NoCase K)) "__init__" = some (some (.ref (x_a_NoCase___init__ K)))) ∧ (PySem.W.excInitIn K (x_C_NoCase K) [.type "LookupError", .type "Exception", .type "BaseException", .type "object"] "LookupError.__new__" = true) ∧ (PySem.W.excOver K (x_C_NoCase K) [.type "LookupError", .type "Exception", .type "BaseException", .type "object"] = true) ∧ (PySem.W.hasDictIn K (x_C_NoCase K) = true) ∧ (PySem.W.findIn K (.ref (x_C_NoCase K)) "__setattr__" = some (some (.builtin "object.__setattr__"))) ∧ (PySem.W.subIn K (.ref (x_C_NoCase K)) (.type "BaseException") = some true) ∧ (PySem.W.subIn K (.ref (x_C_NoCase K)) (.type "LookupError") = some true) ∧ (PySem.W.typeIn K (.ref (x_C_NoCase K)) = some (.type "type")) ∧ (PySem.W.keepIn K (.ref (x_C_NoCase K)) = true) ∧ (PySem.W.takerIn K (x_C_NoCase K) "case" = some none) ∧ (PySem.W.findIn K (.ref (x_C_NoBranch K)) "__init__" = some (some (.ref (x_a_NoBranch___init__ K)))) ∧ (cdQ K (x_a_NoBranch___init__ K) = .ref (coQ K (x_a_NoBranch___init__ K))) ∧ (cellQ K (ccQ K (x_a_NoBranch___init__ K)) = some (.ref (x_C_NoBranch K))) ∧ (fileQ K (coQ K (x_a_NoBranch___init__ K)) = some (PySem.Challenge.rw_onlylooks_k92_errors_and_limits).prog.main.file) ∧ (PySem.W.codeIn K (.ref (x_co_NoBranch___init__ K)) "NoBranch.__init__" = true) ∧ (PySem.W.keepIn K (.ref (x_a_NoBranch___init__ K)) = true) ∧ (PySem.W.isFn K (.ref (x_a_NoBranch___init__ K)) = true) ∧ (PySem.W.mroIn K (x_C_NoBranch K) (.ref (x_C_NoBranch K)) = some true) ∧ (PySem.W.nsIn K cStatics "thirdparty.any" = some none) ∧ (PySem.W.ks_superIn K (x_C_NoBranch K) (x_C_NoBranch K) "__init__" = some (some (.builtin "LookupError.__init__"))) ∧ (PySem.W.findIn K (.ref (x_C_NoBranch K)) "__init__" = some (some (.ref (x_a_NoBranch___init__ K)))) ∧ (PySem.W.excInitIn K (x_C_NoBranch K) [.type "LookupError", .type "Exception", .type "BaseException", .type "object"] "LookupError.__new__" = true) ∧ (PySem.W.excOver K (x_C_NoBranch K) [.type "LookupError", .type "Exception", .type "BaseException", .type "object"] = true) ∧ (PySem.W.hasDictIn K (x_C_NoBranch K) = true) ∧ (PySem.W.findIn K (.ref (x_C_NoBranch K)) "__setattr__" = some (some (.builtin "object.__setattr__"))) ∧ (PySem.W.subIn K (.ref (x_C_NoBranch K)) (.type "BaseException") = some true) ∧ (PySem.W.subIn K (.ref (x_C_NoBranch K)) (.type "LookupError") = some true) ∧ (PySem.W.typeIn K (.ref (x_C_NoBranch K)) = some (.type "type")) ∧ (PySem.W.keepIn K (.ref (x_C_NoBranch K)) = true) := by
  unfold ck12 at c
  simp only [Bool.and_eq_true, decide_eq_true_eq] at c
  exact c
def ck13 (K : Frg) : Bool := decide (PySem.W.takerIn K (x_C_NoBranch K) "value" = some none) && (decide (PySem.W.findIn K (.ref (x_C_TooMany K)) "__init__" = some (some (.ref (x_a_TooMany___init__ K)))) && (decide (cdQ K (x_a_TooMany___init__ K) = .ref (coQ K (x_a_TooMany___init__ K))) && (decide (cellQ K (ccQ K (x_a_TooMany___init__ K)) = some (.ref (x_C_TooMany K))) && (decide (fileQ K (coQ K (x_a_TooMany___init__ K)) = some (PySem.Challenge.rw_onlylooks_k92_errors_and_limits).prog.main.file) && (decide (PySem.W.codeIn K (.ref (x_co_TooMany___init__ K)) "TooMany.__init__" = true) && (decide (PySem.W.keepIn K (.ref (x_a_TooMany___init__ K)) = true) && (decide (PySem.W.isFn K (.ref (x_a_TooMany___init__ K)) = true) && (decide (PySem.W.mroIn K (x_C_TooMany K) (.ref (x_C_TooMany K)) = some true) && (decide (PySem.W.nsIn K cStatics "thirdparty.any" = some none) && (decide (PySem.W.ks_superIn K (x_C_TooMany K) (x_C_TooMany K) "__init__" = some (some (.builtin "OverflowError.__init__"))) && (decide (PySem.W.findIn K (.ref (x_C_TooMany K)) "__init__" = some (some (.ref (x_a_TooMany___init__ K)))) && (decide (PySem.W.excInitIn K (x_C_TooMany K) [.type "OverflowError", .type "ArithmeticError", .type "Exception", .type "BaseException", .type "object"] "OverflowError.__new__" = true) && (decide (PySem.W.excOver K (x_C_TooMany K) [.type "OverflowError", .type "ArithmeticError", .type "Exception", .type "BaseException", .type "object"] = true) && (decide (PySem.W.hasDictIn K (x_C_TooMany K) = true) && (decide (PySem.W.findIn K (.ref (x_C_TooMany K)) "__setattr__" = some (some (.builtin "object.__setattr__"))) && (decide (PySem.W.subIn K (.ref (x_C_TooMany K)) (.type "BaseException") = some true) && (decide (PySem.W.subIn K (.ref (x_C_TooMany K)) (.type "OverflowError") = some true) && (decide (PySem.W.typeIn K (.ref (x_C_TooMany K)) = some (.type "type")) && (decide (PySem.W.keepIn K (.ref (x_C_TooMany K)) = true) && (decide (PySem.W.takerIn K (x_C_TooMany K) "limit" = some none) && (decide (PySem.W.findIn K (.ref (x_C_TooDear K)) "__init__" = some (some (.ref (x_a_TooDear___init__ K)))) && (decide (cdQ K (x_a_TooDear___init__ K) = .ref (coQ K (x_a_TooDear___init__ K))) && (decide (cellQ K (ccQ K (x_a_TooDear___init__ K)) = some (.ref (x_C_TooDear K))) && (decide (fileQ K (coQ K (x_a_TooDear___init__ K)) = some (PySem.Challenge.rw_onlylooks_k92_errors_and_limits).prog.main.file) && (decide (PySem.W.codeIn K (.ref (x_co_TooDear___init__ K)) "TooDear.__init__" = true) && (decide (PySem.W.keepIn K (.ref (x_a_TooDear___init__ K)) = true) && (decide (PySem.W.isFn K (.ref (x_a_TooDear___init__ K)) = true) && (decide (PySem.W.mroIn K (x_C_TooDear K) (.ref (x_C_TooDear K)) = some true) && (decide (PySem.W.nsIn K cStatics "thirdparty.any" = some none))))))))))))))))))))))))))))))
theorem ck13_ok {K : Frg} (c : ck13 K = true) : (PySem.W.takerIn K (x_C_NoBranch K) "value" = some none) ∧ (PySem.W.findIn K (.ref (x_C_TooMany K)) "__init__" = some (some (.ref (x_a_TooMany___init__ K)))) ∧ (cdQ K (x_a_TooMany___init__ K) = .ref (coQ K (x_a_TooMany___init__ K))) ∧ (cellQ K (ccQ K (x_a_TooMany___init__ K)) = some (.ref (x_C_TooMany K))) ∧ (fileQ K (coQ K (x_a_TooMany___init__ K)) = some (PySem.Challenge.rw_onlylooks_k92_errors_and_limits).prog.main.file) ∧ (PySem.W.codeIn K (.ref (x_co_TooMany___init__ K)) "TooMany.__init__" = true) ∧ (PySem.W.keepIn K (.ref (x_a_TooMany___init__ K)) = true) ∧ (PySem.W.isFn K (.ref (x_a_TooMany___init__ K)) = true) ∧ (PySem.W.mroIn K (x_C_TooMany K) (.ref (x_C_TooMany K)) = some true) ∧ (PySem.W.nsIn K cStatics "thirdparty.any" = some none) ∧ (PySem.W.ks_superIn K (x_C_TooMany K) (x_C_TooMany K) "__init__" = some (some (.builtin "OverflowError.__init__"))) ∧ (PySem.W.findIn K (.ref (x_C_TooMany K)) "__init__" = some (some (.ref (x_a_TooMany___init__ K)))) ∧ (PySem.W.excInitIn K (x_C_TooMany K) [.type "OverflowError", .type "ArithmeticError", .type "Exception", .type "BaseException", .type "object"] "OverflowError.__new__" = true) ∧ (PySem.W.excOver K (x_C_TooMany K) [.type "OverflowError", .type "ArithmeticError", .type "Exception", .type "BaseException", .type "object"] = true) ∧ (PySem.W.hasDictIn K (x_C_TooMany K) = true) ∧ (PySem.W.findIn K (.ref (x_C_TooMany K)) "__setattr__" = some (some (.builtin "object.__setattr__"))) ∧ (PySem.W.subIn K (.ref (x_C_TooMany K)) (.type "BaseException") = some true) ∧ (PySem.W.subIn K (.ref (x_C_TooMany K)) (.type "OverflowError") = some true) ∧ (PySem.W.typeIn K (.ref (x_C_TooMany K)) = some (.type "type")) ∧ (PySem.W.keepIn K (.ref (x_C_TooMany K)) = true) ∧ (PySem.W.takerIn K (x_C_TooMany K) "limit" = some none) ∧ (PySem.W.findIn K (.ref (x_C_TooDear K)) "__init__" = some (some (.ref (x_a_TooDear___init__ K)))) ∧ (cdQ K (x_a_TooDear___init__ K) = .ref (coQ K (x_a_TooDear___init__ K))) ∧ (cellQ K (ccQ K (x_a_TooDear___init__ K)) = some (.ref (x_C_TooDear K))) ∧ (fileQ K (coQ K (x_a_TooDear___init__ K)) = some (PySem.Challenge.rw_onlylooks_k92_errors_and_limits).prog.main.file) ∧ (PySem.W.codeIn K (.ref (x_co_TooDear___init__ K)) "TooDear.__init__" = true) ∧ (PySem.W.keepIn K (.ref (x_a_TooDear___init__ K)) = true) ∧ (PySem.W.isFn K (.ref (x_a_TooDear___init__ K)) = true) ∧ (PySem.W.mroIn K (x_C_TooDear K) (.ref (x_C_TooDear K)) = some true) ∧ (PySem.W.nsIn K cStatics "thirdparty.any" = some none) := by
  unfold ck13 at c
  simp only [Bool.and_eq_true, decide_eq_true_eq] at c
  exact c
def ck14 (K : Frg) : Bool := decide (PySem.W.ks_superIn K (x_C_TooDear K) (x_C_TooDear K) "__init__" = some (some (.builtin "OverflowError.__init__"))) && (decide (PySem.W.findIn K (.ref (x_C_TooDear K)) "__init__" = some (some (.ref (x_a_TooDear___init__ K)))) && (decide (PySem.W.excInitIn K (x_C_TooDear K) [.type "OverflowError", .type "ArithmeticError", .type "Exception", .type "BaseException", .type "object"] "OverflowError.__new__" = true) && (decide (PySem.W.excOver K (x_C_TooDear K) [.type "OverflowError", .type "ArithmeticError", .type "Exception", .type "BaseException", .type "object"] = true) && (decide (PySem.W.hasDictIn K (x_C_TooDear K) = true) && (decide (PySem.W.findIn K (.ref (x_C_TooDear K)) "__setattr__" = some (some (.builtin "object.__setattr__"))) && (decide (PySem.W.subIn K (.ref (x_C_TooDear K)) (.type "BaseException") = some true) && (decide (PySem.W.subIn K (.ref (x_C_TooDear K)) (.type "OverflowError") = some true) && (decide (PySem.W.typeIn K (.ref (x_C_TooDear K)) = some (.type "type")) && (decide (PySem.W.keepIn K (.ref (x_C_TooDear K)) = true) && (decide (PySem.W.takerIn K (x_C_TooDear K) "number" = some none) && (decide (PySem.W.findIn K (.ref (x_C_Broken K)) "__init__" = some (some (.ref (x_a_Broken___init__ K)))) && (decide (cdQ K (x_a_Broken___init__ K) = .ref (coQ K (x_a_Broken___init__ K))) && (decide (cellQ K (ccQ K (x_a_Broken___init__ K)) = some (.ref (x_C_Broken K))) && (decide (fileQ K (coQ K (x_a_Broken___init__ K)) = some (PySem.Challenge.rw_onlylooks_k92_errors_and_limits).prog.main.file) && (decide (PySem.W.codeIn K (.ref (x_co_Broken___init__ K)) "Broken.__init__" = true) && (decide (PySem.W.keepIn K (.ref (x_a_Broken___init__ K)) = true) && (decide (PySem.W.isFn K (.ref (x_a_Broken___init__ K)) = true) && (decide (PySem.W.mroIn K (x_C_Broken K) (.ref (x_C_Broken K)) = some true) && (decide (PySem.W.nsIn K cStatics "thirdparty.any" = some none) && (decide (PySem.W.ks_superIn K (x_C_Broken K) (x_C_Broken K) "__init__" = some (some (.builtin "RuntimeError.__init__"))) && (decide (PySem.W.findIn K (.ref (x_C_Broken K)) "__init__" = some (some (.ref (x_a_Broken___init__ K)))) && (decide (PySem.W.excInitIn K (x_C_Broken K) [.type "RuntimeError", .type "Exception", .type "BaseException", .type "object"] "RuntimeError.__new__" = true) && (decide (PySem.W.excOver K (x_C_Broken K) [.type "RuntimeError", .type "Exception", .type "BaseException", .type "object"] = true) && (decide (PySem.W.hasDictIn K (x_C_Broken K) = true) && (decide (PySem.W.findIn K (.ref (x_C_Broken K)) "__setattr__" = some (some (.builtin "object.__setattr__"))) && (decide (PySem.W.subIn K (.ref (x_C_Broken K)) (.type "BaseException") = some true) && (decide (PySem.W.subIn K (.ref (x_C_Broken K)) (.type "RuntimeError") = some true) && (decide (PySem.W.typeIn K (.ref (x_C_Broken K)) = some (.type "type")) && (decide (PySem.W.keepIn K (.ref (x_C_Broken K)) = true))))))))))))))))))))))))))))))
theorem ck14_ok {K : Frg} (c : ck14 K = true) : (PySem.W.ks_superIn K (x_C_TooDear K) (x_C_TooDear K) "__init__" = some (some (.builtin "OverflowError.__init__"))) ∧ (PySem.W.findIn K (.ref (x_C_TooDear K)) "__init__" = some (some (.ref (x_a_TooDear___init__ K)))) ∧ (PySem.W.excInitIn K (x_C_TooDear K) [.type "OverflowError", .type "ArithmeticError", .type "Exception", .type "BaseException", .type "object"] "OverflowError.__new__" = true) ∧ (PySem.W.excOver K (x_C_TooDear K) [.type "OverflowError", .type "ArithmeticError", .type "Exception", .type "BaseException", .type "object"] = true) ∧ (PySem.W.hasDictIn K (x_C_TooDear K) = true) ∧ (PySem.W.findIn K (.ref (x_C_TooDear K)) "__setattr__" = some (some (.builtin "object.__setattr__"))) ∧ (PySem.W.subIn K (.ref (x_C_TooDear K)) (.type "BaseException") = some true) ∧ (PySem.W.subIn K (.ref (x_C_TooDear K)) (.type "OverflowError") = some true) ∧ (PySem.W.typeIn K (.ref (x_C_TooDear K)) = some (.type "type")) ∧ (PySem.W.keepIn K (.ref (x_C_TooDear K)) = true) ∧ (PySem.W.takerIn K (x_C_TooDear K) "number" = some none) ∧ (PySem.W.findIn K (.ref (x_C_Broken K)) "__init__" = some (some (.ref (x_a_Broken___init__ K)))) ∧ (cdQ K (x_a_Broken___init__ K) = .ref (coQ K (x_a_Broken___init__ K))) ∧ (cellQ K (ccQ K (x_a_Broken___init__ K)) = some (.ref (x_C_Broken K))) ∧ (fileQ K (coQ K (x_a_Broken___init__ K)) = some (PySem.Challenge.rw_onlylooks_k92_errors_and_limits).prog.main.file) ∧ (PySem.W.codeIn K (.ref (x_co_Broken___init__ K)) "Broken.__init__" = true) ∧ (PySem.W.keepIn K (.ref (x_a_Broken___init__ K)) = true) ∧ (PySem.W.isFn K (.ref (x_a_Broken___init__ K)) = true) ∧ (PySem.W.mroIn K (x_C_Broken K) (.ref (x_C_Broken K)) = some true) ∧ (PySem.W.nsIn K cStatics "thirdparty.any" = some none) ∧ (PySem.W.ks_superIn K (x_C_Broken K) (x_C_Broken K) "__init__" = some (some (.builtin "RuntimeError.__init__"))) ∧ (PySem.W.findIn K (.ref (x_C_Broken K)) "__init__" = some (some (.ref (x_a_Broken___init__ K)))) ∧ (PySem.W.excInitIn K (x_C_Broken K) [.type "RuntimeError", .type "Exception", .type "BaseException", .type "object"] "RuntimeError.__new__" = true) ∧ (PySem.W.excOver K (x_C_Broken K) [.type "RuntimeError", .type "Exception", .type "BaseException", .type "object"] = true) ∧ (PySem.W.hasDictIn K (x_C_Broken K) = true) ∧ (PySem.W.findIn K (.ref (x_C_Broken K)) "__setattr__" = some (some (.builtin "object.__setattr__"))) ∧ (PySem.W.subIn K (.ref (x_C_Broken K)) (.type "BaseException") = some true) ∧ (PySem.W.subIn K (.ref (x_C_Broken K)) (.type "RuntimeError") = some true) ∧ (PySem.W.typeIn K (.ref (x_C_Broken K)) = some (.type "type")) ∧ (PySem.W.keepIn K (.ref (x_C_Broken K)) = true) := by
  unfold ck14 at c
  simp only [Bool.and_eq_true, decide_eq_true_eq] at c
  exact c
def ck15 (K : Frg) : Bool := decide (PySem.W.takerIn K (x_C_Broken K) "index" = some none) && (decide (PySem.W.takerIn K (x_C_Broken K) "spot" = some none) && (decide (PySem.W.findIn K (.ref (x_C_Unfit K)) "__init__" = some (some (.ref (x_a_Unfit___init__ K)))) && (decide (cdQ K (x_a_Unfit___init__ K) = .ref (coQ K (x_a_Unfit___init__ K))) && (decide (cellQ K (ccQ K (x_a_Unfit___init__ K)) = some (.ref (x_C_Unfit K))) && (decide (fileQ K (coQ K (x_a_Unfit___init__ K)) = some (PySem.Challenge.rw_onlylooks_k92_errors_and_limits).prog.main.file) && (decide (PySem.W.codeIn K (.ref (x_co_Unfit___init__ K)) "Unfit.__init__" = true) && (decide (PySem.W.keepIn K (.ref (x_a_Unfit___init__ K)) = true) && (decide (PySem.W.isFn K (.ref (x_a_Unfit___init__ K)) = true) && (decide (PySem.W.mroIn K (x_C_Unfit K) (.ref (x_C_Unfit K)) = some true) && (decide (PySem.W.nsIn K cStatics "thirdparty.any" = some none) && (decide (PySem.W.ks_superIn K (x_C_Unfit K) (x_C_Unfit K) "__init__" = some (some (.builtin "RuntimeError.__init__"))) && (decide (PySem.W.findIn K (.ref (x_C_Unfit K)) "__init__" = some (some (.ref (x_a_Unfit___init__ K)))) && (decide (PySem.W.excInitIn K (x_C_Unfit K) [.type "RuntimeError", .type "Exception", .type "BaseException", .type "object"] "RuntimeError.__new__" = true) && (decide (PySem.W.excOver K (x_C_Unfit K) [.type "RuntimeError", .type "Exception", .type "BaseException", .type "object"] = true) && (decide (PySem.W.hasDictIn K (x_C_Unfit K) = true) && (decide (PySem.W.findIn K (.ref (x_C_Unfit K)) "__setattr__" = some (some (.builtin "object.__setattr__"))) && (decide (PySem.W.subIn K (.ref (x_C_Unfit K)) (.type "BaseException") = some true) && (decide (PySem.W.subIn K (.ref (x_C_Unfit K)) (.type "RuntimeError") = some true) && (decide (PySem.W.typeIn K (.ref (x_C_Unfit K)) = some (.type "type")) && (decide (PySem.W.keepIn K (.ref (x_C_Unfit K)) = true) && (decide (PySem.W.takerIn K (x_C_Unfit K) "index" = some none) && (decide (PySem.W.findIn K (.ref (x_C_Refused K)) "__init__" = some (some (.ref (x_a_Refused___init__ K)))) && (decide (cdQ K (x_a_Refused___init__ K) = .ref (coQ K (x_a_Refused___init__ K))) && (decide (cellQ K (ccQ K (x_a_Refused___init__ K)) = some (.ref (x_C_Refused K))) && (decide (fileQ K (coQ K (x_a_Refused___init__ K)) = some (PySem.Challenge.rw_onlylooks_k92_errors_and_limits).prog.main.file) && (decide (PySem.W.codeIn K (.ref (x_co_Refused___init__ K)) "Refused.__init__" = true) && (decide (PySem.W.keepIn K (.ref (x_a_Refused___init__ K)) = true) && (decide (PySem.W.isFn K (.ref (x_a_Refused___init__ K)) = true) && (decide (PySem.W.mroIn K (x_C_Refused K) (.ref (x_C_Refused K)) = some true))))))))))))))))))))))))))))))
theorem ck15_ok {K : Frg} (c : ck15 K = true) : (PySem.W.takerIn K (x_C_Broken K) "index" = some none) ∧ (PySem.W.takerIn K (x_C_Broken K) "spot" = some none) ∧ (PySem.W.findIn K (.ref (x_C_Unfit K)) "__init__" = some (some (.ref (x_a_Unfit___init__ K)))) ∧ (cdQ K (x_a_Unfit___init__ K) = .ref (coQ K (x_a_Unfit___init__ K))) ∧ (cellQ K (ccQ K (x_a_Unfit___init__ K)) = some (.ref (x_C_Unfit K))) ∧ (fileQ K (coQ K (x_a_Unfit___init__ K)) = some (PySem.Challenge.rw_onlylooks_k92_errors_and_limits).prog.main.file) ∧ (PySem.W.codeIn K (.ref (x_co_Unfit___init__ K)) "Unfit.__init__" = true) ∧ (PySem.W.keepIn K (.ref (x_a_Unfit___init__ K)) = true) ∧ (PySem.W.isFn K (.ref (x_a_Unfit___init__ K)) = true) ∧ (PySem.W.mroIn K (x_C_Unfit K) (.ref (x_C_Unfit K)) = some true) ∧ (PySem.W.nsIn K cStatics "thirdparty.any" = some none) ∧ (PySem.W.ks_superIn K (x_C_Unfit K) (x_C_Unfit K) "__init__" = some (some (.builtin "RuntimeError.__init__"))) ∧ (PySem.W.findIn K (.ref (x_C_Unfit K)) "__init__" = some (some (.ref (x_a_Unfit___init__ K)))) ∧ (PySem.W.excInitIn K (x_C_Unfit K) [.type "RuntimeError", .type "Exception", .type "BaseException", .type "object"] "RuntimeError.__new__" = true) ∧ (PySem.W.excOver K (x_C_Unfit K) [.type "RuntimeError", .type "Exception", .type "BaseException", .type "object"] = true) ∧ (PySem.W.hasDictIn K (x_C_Unfit K) = true) ∧ (PySem.W.findIn K (.ref (x_C_Unfit K)) "__setattr__" = some (some (.builtin "object.__setattr__"))) ∧ (PySem.W.subIn K (.ref (x_C_Unfit K)) (.type "BaseException") = some true) ∧ (PySem.W.subIn K (.ref (x_C_Unfit K)) (.type "RuntimeError") = some true) ∧ (PySem.W.typeIn K (.ref (x_C_Unfit K)) = some (.type "type")) ∧ (PySem.W.keepIn K (.ref (x_C_Unfit K)) = true) ∧ (PySem.W.takerIn K (x_C_Unfit K) "index" = some none) ∧ (PySem.W.findIn K (.ref (x_C_Refused K)) "__init__" = some (some (.ref (x_a_Refused___init__ K)))) ∧ (cdQ K (x_a_Refused___init__ K) = .ref (coQ K (x_a_Refused___init__ K))) ∧ (cellQ K (ccQ K (x_a_Refused___init__ K)) = some (.ref (x_C_Refused K))) ∧ (fileQ K (coQ K (x_a_Refused___init__ K)) = some (PySem.Challenge.rw_onlylooks_k92_errors_and_limits).prog.main.file) ∧ (PySem.W.codeIn K (.ref (x_co_Refused___init__ K)) "Refused.__init__" = true) ∧ (PySem.W.keepIn K (.ref (x_a_Refused___init__ K)) = true) ∧ (PySem.W.isFn K (.ref (x_a_Refused___init__ K)) = true) ∧ (PySem.W.mroIn K (x_C_Refused K) (.ref (x_C_Refused K)) = some true) := by
  unfold ck15 at c
  simp only [Bool.and_eq_true, decide_eq_true_eq] at c
  exact c
def ck16 (K : Frg) : Bool := decide (PySem.W.nsIn K cStatics "thirdparty.any" = some none) && (decide (PySem.W.ks_superIn K (x_C_Refused K) (x_C_Refused K) "__init__" = some (some (.builtin "RuntimeError.__init__"))) && (decide (PySem.W.findIn K (.ref (x_C_Refused K)) "__init__" = some (some (.ref (x_a_Refused___init__ K)))) && (decide (PySem.W.excInitIn K (x_C_Refused K) [.type "RuntimeError", .type "Exception", .type "BaseException", .type "object"] "RuntimeError.__new__" = true) && (decide (PySem.W.excOver K (x_C_Refused K) [.type "RuntimeError", .type "Exception", .type "BaseException", .type "object"] = true) && (decide (PySem.W.hasDictIn K (x_C_Refused K) = true) && (decide (PySem.W.findIn K (.ref (x_C_Refused K)) "__setattr__" = some (some (.builtin "object.__setattr__"))) && (decide (PySem.W.subIn K (.ref (x_C_Refused K)) (.type "BaseException") = some true) && (decide (PySem.W.subIn K (.ref (x_C_Refused K)) (.type "RuntimeError") = some true) && (decide (PySem.W.typeIn K (.ref (x_C_Refused K)) = some (.type "type")) && (decide (PySem.W.keepIn K (.ref (x_C_Refused K)) = true) && (decide (PySem.W.takerIn K (x_C_Refused K) "change" = some none) && (decide (PySem.W.findIn K (.ref (x_C_LookFailed K)) "__init__" = some (some (.ref (x_a_LookFailed___init__ K)))) && (decide (cdQ K (x_a_LookFailed___init__ K) = .ref (coQ K (x_a_LookFailed___init__ K))) && (decide (cellQ K (ccQ K (x_a_LookFailed___init__ K)) = some (.ref (x_C_LookFailed K))) && (decide (fileQ K (coQ K (x_a_LookFailed___init__ K)) = some (PySem.Challenge.rw_onlylooks_k92_errors_and_limits).prog.main.file) && (decide (PySem.W.codeIn K (.ref (x_co_LookFailed___init__ K)) "LookFailed.__init__" = true) && (decide (PySem.W.keepIn K (.ref (x_a_LookFailed___init__ K)) = true) && (decide (PySem.W.isFn K (.ref (x_a_LookFailed___init__ K)) = true) && (decide (PySem.W.mroIn K (x_C_LookFailed K) (.ref (x_C_LookFailed K)) = some true) && (decide (PySem.W.nsIn K cStatics "thirdparty.any" = some none) && (decide (PySem.W.ks_superIn K (x_C_LookFailed K) (x_C_LookFailed K) "__init__" = some (some (.builtin "RuntimeError.__init__"))) && (decide (PySem.W.findIn K (.ref (x_C_LookFailed K)) "__init__" = some (some (.ref (x_a_LookFailed___init__ K)))) && (decide (PySem.W.excInitIn K (x_C_LookFailed K) [.type "RuntimeError", .type "Exception", .type "BaseException", .type "object"] "RuntimeError.__new__" = true) && (decide (PySem.W.excOver K (x_C_LookFailed K) [.type "RuntimeError", .type "Exception", .type "BaseException", .type "object"] = true) && (decide (PySem.W.hasDictIn K (x_C_LookFailed K) = true) && (decide (PySem.W.findIn K (.ref (x_C_LookFailed K)) "__setattr__" = some (some (.builtin "object.__setattr__"))) && (decide (PySem.W.subIn K (.ref (x_C_LookFailed K)) (.type "BaseException") = some true) && (decide (PySem.W.subIn K (.ref (x_C_LookFailed K)) (.type "RuntimeError") = some true) && (decide (PySem.W.typeIn K (.ref (x_C_LookFailed K)) = some (.type "type")))))))))))))))))))))))))))))))
theorem ck16_ok {K : Frg} (c : ck16 K = true) : (PySem.W.nsIn K cStatics "thirdparty.any" = some none) ∧ (PySem.W.ks_superIn K (x_C_Refused K) (x_C_Refused K) "__init__" = some (some (.builtin "RuntimeError.__init__"))) ∧ (PySem.W.findIn K (.ref (x_C_Refused K)) "__init__" = some (some (.ref (x_a_Refused___init__ K)))) ∧ (PySem.W.excInitIn K (x_C_Refused K) [.type "RuntimeError", .type "Exception", .type "BaseException", .type "object"] "RuntimeError.__new__" = true) ∧ (PySem.W.excOver K (x_C_Refused K) [.type "RuntimeError", .type "Exception", .type "BaseException", .type "object"] = true) ∧ (PySem.W.hasDictIn K (x_C_Refused K) = true) ∧ (PySem.W.findIn K (.ref (x_C_Refused K)) "__setattr__" = some (some (.builtin "object.__setattr__"))) ∧ (PySem.W.subIn K (.ref (x_C_Refused K)) (.type "BaseException") = some true) ∧ (PySem.W.subIn K (.ref (x_C_Refused K)) (.type "RuntimeError") = some true) ∧ (PySem.W.typeIn K (.ref (x_C_Refused K)) = some (.type "type")) ∧ (PySem.W.keepIn K (.ref (x_C_Refused K)) = true) ∧ (PySem.W.takerIn K (x_C_Refused K) "change" = some none) ∧ (PySem.W.findIn K (.ref (x_C_LookFailed K)) "__init__" = some (some (.ref (x_a_LookFailed___init__ K)))) ∧ (cdQ K (x_a_LookFailed___init__ K) = .ref (coQ K (x_a_LookFailed___init__ K))) ∧ (cellQ K (ccQ K (x_a_LookFailed___init__ K)) = some (.ref (x_C_LookFailed K))) ∧ (fileQ K (coQ K (x_a_LookFailed___init__ K)) = some (PySem.Challenge.rw_onlylooks_k92_errors_and_limits).prog.main.file) ∧ (PySem.W.codeIn K (.ref (x_co_LookFailed___init__ K)) "LookFailed.__init__" = true) ∧ (PySem.W.keepIn K (.ref (x_a_LookFailed___init__ K)) = true) ∧ (PySem.W.isFn K (.ref (x_a_LookFailed___init__ K)) = true) ∧ (PySem.W.mroIn K (x_C_LookFailed K) (.ref (x_C_LookFailed K)) = some true) ∧ (PySem.W.nsIn K cStatics "thirdparty.any" = some none) ∧ (PySem.W.ks_superIn K (x_C_LookFailed K) (x_C_LookFailed K) "__init__" = some (some (.builtin "RuntimeError.__init__"))) ∧ (PySem.W.findIn K (.ref (x_C_LookFailed K)) "__init__" = some (some (.ref (x_a_LookFailed___init__ K)))) ∧ (PySem.W.excInitIn K (x_C_LookFailed K) [.type "RuntimeError", .type "Exception", .type "BaseException", .type "object"] "RuntimeError.__new__" = true) ∧ (PySem.W.excOver K (x_C_LookFailed K) [.type "RuntimeError", .type "Exception", .type "BaseException", .type "object"] = true) ∧ (PySem.W.hasDictIn K (x_C_LookFailed K) = true) ∧ (PySem.W.findIn K (.ref (x_C_LookFailed K)) "__setattr__" = some (some (.builtin "object.__setattr__"))) ∧ (PySem.W.subIn K (.ref (x_C_LookFailed K)) (.type "BaseException") = some true) ∧ (PySem.W.subIn K (.ref (x_C_LookFailed K)) (.type "RuntimeError") = some true) ∧ (PySem.W.typeIn K (.ref (x_C_LookFailed K)) = some (.type "type")) := by
  unfold ck16 at c
  simp only [Bool.and_eq_true, decide_eq_true_eq] at c
  exact c
def ck17 (K : Frg) : Bool := decide (PySem.W.keepIn K (.ref (x_C_LookFailed K)) = true) && (decide (PySem.W.takerIn K (x_C_LookFailed K) "number" = some none) && (decide (PySem.W.findIn K (.ref (x_C_NoLook K)) "__init__" = some (some (.ref (x_a_NoLook___init__ K)))) && (decide (cdQ K (x_a_NoLook___init__ K) = .ref (coQ K (x_a_NoLook___init__ K))) && (decide (cellQ K (ccQ K (x_a_NoLook___init__ K)) = some (.ref (x_C_NoLook K))) && (decide (fileQ K (coQ K (x_a_NoLook___init__ K)) = some (PySem.Challenge.rw_onlylooks_k92_errors_and_limits).prog.main.file) && (decide (PySem.W.codeIn K (.ref (x_co_NoLook___init__ K)) "NoLook.__init__" = true) && (decide (PySem.W.keepIn K (.ref (x_a_NoLook___init__ K)) = true) && (decide (PySem.W.isFn K (.ref (x_a_NoLook___init__ K)) = true) && (decide (PySem.W.mroIn K (x_C_NoLook K) (.ref (x_C_NoLook K)) = some true) && (decide (PySem.W.nsIn K cStatics "thirdparty.any" = some none) && (decide (PySem.W.ks_superIn K (x_C_NoLook K) (x_C_NoLook K) "__init__" = some (some (.builtin "RuntimeError.__init__"))) && (decide (PySem.W.findIn K (.ref (x_C_NoLook K)) "__init__" = some (some (.ref (x_a_NoLook___init__ K)))) && (decide (PySem.W.excInitIn K (x_C_NoLook K) [.type "RuntimeError", .type "Exception", .type "BaseException", .type "object"] "RuntimeError.__new__" = true) && (decide (PySem.W.excOver K (x_C_NoLook K) [.type "RuntimeError", .type "Exception", .type "BaseException", .type "object"] = true) && (decide (PySem.W.hasDictIn K (x_C_NoLook K) = true) && (decide (PySem.W.findIn K (.ref (x_C_NoLook K)) "__setattr__" = some (some (.builtin "object.__setattr__"))) && (decide (PySem.W.subIn K (.ref (x_C_NoLook K)) (.type "BaseException") = some true) && (decide (PySem.W.subIn K (.ref (x_C_NoLook K)) (.type "RuntimeError") = some true) && (decide (PySem.W.typeIn K (.ref (x_C_NoLook K)) = some (.type "type")) && (decide (PySem.W.keepIn K (.ref (x_C_NoLook K)) = true) && (decide (PySem.W.takerIn K (x_C_NoLook K) "value" = some none) && (decide (PySem.W.nsIn K mainGlobals "_law_pen" = some (some (.ref (x_a__law_pen K)))) && (decide (PySem.W.codeIn K (x_cd__law_pen K) "_law_pen" = true) && (decide (PySem.W.keepIn K (.ref (x_a__law_pen K)) = true) && (decide (PySem.W.nsIn K mainGlobals "_law_draw" = some (some (.ref (x_a__law_draw K)))) && (decide (PySem.W.codeIn K (x_cd__law_draw K) "_law_draw" = true) && (decide (PySem.W.keepIn K (.ref (x_a__law_draw K)) = true) && (decide (PySem.W.nsIn K mainGlobals "_law_pick" = some (some (.ref (x_a__law_pick K)))) && (decide (PySem.W.codeIn K (x_cd__law_pick K) "_law_pick" = true))))))))))))))))))))))))))))))
theorem ck17_ok {K : Frg} (c : ck17 K = true) : (PySem.W.keepIn K (.ref (x_C_LookFailed K)) = true) ∧ (PySem.W.takerIn K (x_C_LookFailed K) "number" = some none) ∧ (PySem.W.findIn K (.ref (x_C_NoLook K)) "__init__" = some (some (.ref (x_a_NoLook___init__ K)))) ∧ (cdQ K (x_a_NoLook___init__ K) = .ref (coQ K (x_a_NoLook___init__ K))) ∧ (cellQ K (ccQ K (x_a_NoLook___init__ K)) = some (.ref (x_C_NoLook K))) ∧ (fileQ K (coQ K (x_a_NoLook___init__ K)) = some (PySem.Challenge.rw_onlylooks_k92_errors_and_limits).prog.main.file) ∧ (PySem.W.codeIn K (.ref (x_co_NoLook___init__ K)) "NoLook.__init__" = true) ∧ (PySem.W.keepIn K (.ref (x_a_NoLook___init__ K)) = true) ∧ (PySem.W.isFn K (.ref (x_a_NoLook___init__ K)) = true) ∧ (PySem.W.mroIn K (x_C_NoLook K) (.ref (x_C_NoLook K)) = some true) ∧ (PySem.W.nsIn K cStatics "thirdparty.any" = some none) ∧ (PySem.W.ks_superIn K (x_C_NoLook K) (x_C_NoLook K) "__init__" = some (some (.builtin "RuntimeError.__init__"))) ∧ (PySem.W.findIn K (.ref (x_C_NoLook K)) "__init__" = some (some (.ref (x_a_NoLook___init__ K)))) ∧ (PySem.W.excInitIn K (x_C_NoLook K) [.type "RuntimeError", .type "Exception", .type "BaseException", .type "object"] "RuntimeError.__new__" = true) ∧ (PySem.W.excOver K (x_C_NoLook K) [.type "RuntimeError", .type "Exception", .type "BaseException", .type "object"] = true) ∧ (PySem.W.hasDictIn K (x_C_NoLook K) = true) ∧ (PySem.W.findIn K (.ref (x_C_NoLook K)) "__setattr__" = some (some (.builtin "object.__setattr__"))) ∧ (PySem.W.subIn K (.ref (x_C_NoLook K)) (.type "BaseException") = some true) ∧ (PySem.W.subIn K (.ref (x_C_NoLook K)) (.type "RuntimeError") = some true) ∧ (PySem.W.typeIn K (.ref (x_C_NoLook K)) = some (.type "type")) ∧ (PySem.W.keepIn K (.ref (x_C_NoLook K)) = true) ∧ (PySem.W.takerIn K (x_C_NoLook K) "value" = some none) ∧ (PySem.W.nsIn K mainGlobals "_law_pen" = some (some (.ref (x_a__law_pen K)))) ∧ (PySem.W.codeIn K (x_cd__law_pen K) "_law_pen" = true) ∧ (PySem.W.keepIn K (.ref (x_a__law_pen K)) = true) ∧ (PySem.W.nsIn K mainGlobals "_law_draw" = some (some (.ref (x_a__law_draw K)))) ∧ (PySem.W.codeIn K (x_cd__law_draw K) "_law_draw" = true) ∧ (PySem.W.keepIn K (.ref (x_a__law_draw K)) = true) ∧ (PySem.W.nsIn K mainGlobals "_law_pick" = some (some (.ref (x_a__law_pick K)))) ∧ (PySem.W.codeIn K (x_cd__law_pick K) "_law_pick" = true) := by
  unfold ck17 at c
  simp only [Bool.and_eq_true, decide_eq_true_eq] at c
  exact c
def ck18 (K : Frg) : Bool := decide (PySem.W.keepIn K (.ref (x_a__law_pick K)) = true) && (decide (PySem.W.nsIn K mainGlobals "_law_any_value" = some (some (.ref (x_a__law_any_value K)))) && (decide (PySem.W.codeIn K (x_cd__law_any_value K) "_law_any_value" = true) && (decide (PySem.W.keepIn K (.ref (x_a__law_any_value K)) = true) && (decide (PySem.W.nsIn K mainGlobals "_law_some_errors" = some (some (.ref (x_a__law_some_errors K)))) && (decide (PySem.W.codeIn K (x_cd__law_some_errors K) "_law_some_errors" = true) && (decide (PySem.W.keepIn K (.ref (x_a__law_some_errors K)) = true) && (decide (PySem.W.nsIn K mainGlobals "_law_other_errors" = some (some (.ref (x_a__law_other_errors K)))) && (decide (PySem.W.codeIn K (x_cd__law_other_errors K) "_law_other_errors" = true) && (decide (PySem.W.keepIn K (.ref (x_a__law_other_errors K)) = true) && (decide (PySem.W.nsIn K mainGlobals "_law_classes" = some (some (.ref (x_a__law_classes K)))) && (decide (PySem.W.codeIn K (x_cd__law_classes K) "_law_classes" = true) && (decide (PySem.W.keepIn K (.ref (x_a__law_classes K)) = true) && (decide (PySem.W.nsIn K mainGlobals "_law_sorts" = some (some (.ref (x_a__law_sorts K)))) && (decide (PySem.W.codeIn K (x_cd__law_sorts K) "_law_sorts" = true) && (decide (PySem.W.keepIn K (.ref (x_a__law_sorts K)) = true) && (decide (PySem.W.nsIn K mainGlobals "law" = some (some (.ref (x_a_law K)))) && (decide (PySem.W.codeIn K (x_cd_law K) "law" = true) && (decide (PySem.W.keepIn K (.ref (x_a_law K)) = true) && (decide (PySem.W.excIn K (x_C_InvalidSchema K) [.type "ValueError", .type "Exception", .type "BaseException", .type "object"] "ValueError.__new__" = true) && (decide (PySem.W.keepIn K (.ref (x_C_InvalidSchema K)) = true) && (decide (PySem.W.subIn K (.ref (x_C_InvalidSchema K)) (.type "BaseException") = some true) && (decide (PySem.W.typeIn K (.ref (x_C_InvalidSchema K)) = some (.type "type")) && (decide (PySem.W.excIn K (x_C_OtherSchema K) [.type "ValueError", .type "Exception", .type "BaseException", .type "object"] "ValueError.__new__" = true) && (decide (PySem.W.keepIn K (.ref (x_C_OtherSchema K)) = true) && (decide (PySem.W.subIn K (.ref (x_C_OtherSchema K)) (.type "BaseException") = some true) && (decide (PySem.W.typeIn K (.ref (x_C_OtherSchema K)) = some (.type "type")) && (decide (PySem.W.excIn K (x_C_InvalidPair K) [.type "ValueError", .type "Exception", .type "BaseException", .type "object"] "ValueError.__new__" = true) && (decide (PySem.W.keepIn K (.ref (x_C_InvalidPair K)) = true) && (decide (PySem.W.subIn K (.ref (x_C_InvalidPair K)) (.type "BaseException") = some true))))))))))))))))))))))))))))))
theorem ck18_ok {K : Frg} (c : ck18 K = true) : (PySem.W.keepIn K (.ref (x_a__law_pick K)) = true) ∧ (PySem.W.nsIn K mainGlobals "_law_any_value" = some (some (.ref (x_a__law_any_value K)))) ∧ (PySem.W.codeIn K (x_cd__law_any_value K) "_law_any_value" = true) ∧ (PySem.W.keepIn K (.ref (x_a__law_any_value K)) = true) ∧ (PySem.W.nsIn K mainGlobals "_law_some_errors" = some (some (.ref (x_a__law_some_errors K)))) ∧ (PySem.W.codeIn K (x_cd__law_some_errors K) "_law_some_errors" = true) ∧ (PySem.W.keepIn K (.ref (x_a__law_some_errors K)) = true) ∧ (PySem.W.nsIn K mainGlobals "_law_other_errors" = some (some (.ref (x_a__law_other_errors K)))) ∧ (PySem.W.codeIn K (x_cd__law_other_errors K) "_law_other_errors" = true) ∧ (PySem.W.keepIn K (.ref (x_a__law_other_errors K)) = true) ∧ (PySem.W.nsIn K mainGlobals "_law_classes" = some (some (.ref (x_a__law_classes K)))) ∧ (PySem.W.codeIn K (x_cd__law_classes K) "_law_classes" = true) ∧ (PySem.W.keepIn K (.ref (x_a__law_classes K)) = true) ∧ (PySem.W.nsIn K mainGlobals "_law_sorts" = some (some (.ref (x_a__law_sorts K)))) ∧ (PySem.W.codeIn K (x_cd__law_sorts K) "_law_sorts" = true) ∧ (PySem.W.keepIn K (.ref (x_a__law_sorts K)) = true) ∧ (PySem.W.nsIn K mainGlobals "law" = some (some (.ref (x_a_law K)))) ∧ (PySem.W.codeIn K (x_cd_law K) "law" = true) ∧ (PySem.W.keepIn K (.ref (x_a_law K)) = true) ∧ (PySem.W.excIn K (x_C_InvalidSchema K) [.type "ValueError", .type "Exception", .type "BaseException", .type "object"] "ValueError.__new__" = true) ∧ (PySem.W.keepIn K (.ref (x_C_InvalidSchema K)) = true) ∧ (PySem.W.subIn K (.ref (x_C_InvalidSchema K)) (.type "BaseException") = some true) ∧ (PySem.W.typeIn K (.ref (x_C_InvalidSchema K)) = some (.type "type")) ∧ (PySem.W.excIn K (x_C_OtherSchema K) [.type "ValueError", .type "Exception", .type "BaseException", .type "object"] "ValueError.__new__" = true) ∧ (PySem.W.keepIn K (.ref (x_C_OtherSchema K)) = true) ∧ (PySem.W.subIn K (.ref (x_C_OtherSchema K)) (.type "BaseException") = some true) ∧ (PySem.W.typeIn K (.ref (x_C_OtherSchema K)) = some (.type "type")) ∧ (PySem.W.excIn K (x_C_InvalidPair K) [.type "ValueError", .type "Exception", .type "BaseException", .type "object"] "ValueError.__new__" = true) ∧ (PySem.W.keepIn K (.ref (x_C_InvalidPair K)) = true) ∧ (PySem.W.subIn K (.ref (x_C_InvalidPair K)) (.type "BaseException") = some true) := by
  unfold ck18 at c
  simp only [Bool.and_eq_true, decide_eq_true_eq] at c
  exact c
def ck19 (K : Frg) : Bool := decide (PySem.W.typeIn K (.ref (x_C_InvalidPair K)) = some (.type "type")) && (decide (PySem.W.excIn K (x_C_NoLine K) [.type "ValueError", .type "Exception", .type "BaseException", .type "object"] "ValueError.__new__" = true) && (decide (PySem.W.keepIn K (.ref (x_C_NoLine K)) = true) && (decide (PySem.W.subIn K (.ref (x_C_NoLine K)) (.type "BaseException") = some true) && (decide (PySem.W.typeIn K (.ref (x_C_NoLine K)) = some (.type "type")) && (decide (PySem.W.excIn K (x_C_Nothing K) [.type "LookupError", .type "Exception", .type "BaseException", .type "object"] "LookupError.__new__" = true) && (decide (PySem.W.keepIn K (.ref (x_C_Nothing K)) = true) && (decide (PySem.W.subIn K (.ref (x_C_Nothing K)) (.type "BaseException") = some true) && (decide (PySem.W.typeIn K (.ref (x_C_Nothing K)) = some (.type "type")) && (decide (PySem.W.excIn K (x_C_NeverFits K) [.type "RuntimeError", .type "Exception", .type "BaseException", .type "object"] "RuntimeError.__new__" = true) && (decide (PySem.W.keepIn K (.ref (x_C_NeverFits K)) = true) && (decide (PySem.W.subIn K (.ref (x_C_NeverFits K)) (.type "BaseException") = some true) && (decide (PySem.W.typeIn K (.ref (x_C_NeverFits K)) = some (.type "type")) && (decide (PySem.W.nsIn K mainGlobals "isinstance" = some none) && (decide (PySem.W.nsIn K mainGlobals "len" = some none) && (decide (PySem.W.nsIn K mainGlobals "list" = some none) && (decide (PySem.W.nsIn K mainGlobals "zip" = some none) && (decide (PySem.W.nsIn K mainGlobals "range" = some none) && (decide (PySem.W.nsIn K mainGlobals "int" = some none) && (decide (PySem.W.nsIn K mainGlobals "abs" = some none) && (decide (PySem.W.nsIn K mainGlobals "repr" = some none) && (decide (PySem.W.nsIn K mainGlobals "min" = some none) && (decide (PySem.W.nsIn K mainGlobals "super" = some none) && (decide (PySem.W.nsIn K mainGlobals "ValueError" = some none) && (decide (PySem.W.nsIn K mainGlobals "LookupError" = some none) && (decide (PySem.W.nsIn K mainGlobals "OverflowError" = some none) && (decide (PySem.W.nsIn K mainGlobals "RuntimeError" = some none) && (decide (PySem.W.nsIn K mainGlobals "IndexError" = some none) && (decide (PySem.W.nsIn K mainGlobals "KeyError" = some none) && (decide (PySem.W.nsIn K mainGlobals "NotImplementedError" = some none))))))))))))))))))))))))))))))
theorem ck19_ok {K : Frg} (c : ck19 K = true) : (PySem.W.typeIn K (.ref (x_C_InvalidPair K)) = some (.type "type")) ∧ (PySem.W.excIn K (x_C_NoLine K) [.type "ValueError", .type "Exception", .type "BaseException", .type "object"] "ValueError.__new__" = true) ∧ (PySem.W.keepIn K (.ref (x_C_NoLine K)) = true) ∧ (PySem.W.subIn K (.ref (x_C_NoLine K)) (.type "BaseException") = some true) ∧ (PySem.W.typeIn K (.ref (x_C_NoLine K)) = some (.type "type")) ∧ (PySem.W.excIn K (x_C_Nothing K) [.type "LookupError", .type "Exception", .type "BaseException", .type "object"] "LookupError.__new__" = true) ∧ (PySem.W.keepIn K (.ref (x_C_Nothing K)) = true) ∧ (PySem.W.subIn K (.ref (x_C_Nothing K)) (.type "BaseException") = some true) ∧ (PySem.W.typeIn K (.ref (x_C_Nothing K)) = some (.type "type")) ∧ (PySem.W.excIn K (x_C_NeverFits K) [.type "RuntimeError", .type "Exception", .type "BaseException", .type "object"] "RuntimeError.__new__" = true) ∧ (PySem.W.keepIn K (.ref (x_C_NeverFits K)) = true) ∧ (PySem.W.subIn K (.ref (x_C_NeverFits K)) (.type "BaseException") = some true) ∧ (PySem.W.typeIn K (.ref (x_C_NeverFits K)) = some (.type "type")) ∧ (PySem.W.nsIn K mainGlobals "isinstance" = some none) ∧ (PySem.W.nsIn K mainGlobals "len" = some none) ∧ (PySem.W.nsIn K mainGlobals "list" = some none) ∧ (PySem.W.nsIn K mainGlobals "zip" = some none) ∧ (PySem.W.nsIn K mainGlobals "range" = some none) ∧ (PySem.W.nsIn K mainGlobals "int" = some none) ∧ (PySem.W.nsIn K mainGlobals "abs" = some none) ∧ (PySem.W.nsIn K mainGlobals "repr" = some none) ∧ (PySem.W.nsIn K mainGlobals "min" = some none) ∧ (PySem.W.nsIn K mainGlobals "super" = some none) ∧ (PySem.W.nsIn K mainGlobals "ValueError" = some none) ∧ (PySem.W.nsIn K mainGlobals "LookupError" = some none) ∧ (PySem.W.nsIn K mainGlobals "OverflowError" = some none) ∧ (PySem.W.nsIn K mainGlobals "RuntimeError" = some none) ∧ (PySem.W.nsIn K mainGlobals "IndexError" = some none) ∧ (PySem.W.nsIn K mainGlobals "KeyError" = some none) ∧ (PySem.W.nsIn K mainGlobals "NotImplementedError" = some none) := by
  unfold ck19 at c
  simp only [Bool.and_eq_true, decide_eq_true_eq] at c
  exact c
def ck20 (K : Frg) : Bool := decide (intQ K "MAX_WORD" 8 = true) && (decide (intQ K "MAX_TABLES" 4 = true) && (decide (intQ K "MAX_COLUMNS" 3 = true) && (decide (intQ K "MAX_STATEMENTS" 5 = true) && (decide (intQ K "MAX_LEAST" 2 = true) && (decide (intQ K "MAX_MOST" 3 = true) && (decide (intQ K "MAX_ENTRIES" 3 = true) && (decide (intQ K "MAX_WANTED" 16 = true) && (decide (intQ K "MAX_PAPER" 6 = true) && (decide (intQ K "MAX_ANSWERS" 200 = true) && (decide (intQ K "MAX_OPEN" 8 = true) && (decide (intQ K "MAX_NAMES" 4 = true) && (decide ((List.range 31).all (fun i => (List.range 31).all fun j => decide (PySem.W.kitOne K (.ref (([(x_C_InvalidTable K), (x_C_InvalidSchema K), (x_C_InvalidRow K), (x_C_OtherSchema K), (x_C_InvalidRule K), (x_C_Misfit K), (x_C_Circle K), (x_C_InvalidFact K), (x_C_InvalidChange K), (x_C_InvalidAnswer K), (x_C_InvalidTemplate K), (x_C_InvalidNames K), (x_C_InvalidPair K), (x_C_InvalidLimit K), (x_C_Unreadable K), (x_C_NoLine K), (x_C_UnknownTable K), (x_C_UnknownColumn K), (x_C_OutOfRange K), (x_C_NoAnswer K), (x_C_NoCase K), (x_C_NoBranch K), (x_C_Nothing K), (x_C_TooMany K), (x_C_TooDear K), (x_C_Broken K), (x_C_Unfit K), (x_C_NeverFits K), (x_C_Refused K), (x_C_LookFailed K), (x_C_NoLook K)] : List Addr).getD i 0)) (.ref (([(x_C_InvalidTable K), (x_C_InvalidSchema K), (x_C_InvalidRow K), (x_C_OtherSchema K), (x_C_InvalidRule K), (x_C_Misfit K), (x_C_Circle K), (x_C_InvalidFact K), (x_C_InvalidChange K), (x_C_InvalidAnswer K), (x_C_InvalidTemplate K), (x_C_InvalidNames K), (x_C_InvalidPair K), (x_C_InvalidLimit K), (x_C_Unreadable K), (x_C_NoLine K), (x_C_UnknownTable K), (x_C_UnknownColumn K), (x_C_OutOfRange K), (x_C_NoAnswer K), (x_C_NoCase K), (x_C_NoBranch K), (x_C_Nothing K), (x_C_TooMany K), (x_C_TooDear K), (x_C_Broken K), (x_C_Unfit K), (x_C_NeverFits K), (x_C_Refused K), (x_C_LookFailed K), (x_C_NoLook K)] : List Addr).getD j 0)) = some (decide (i = j)))) = true) && (decide ((List.range 31).all (fun i => (List.range 4).all fun j => decide (PySem.W.kitOne K (.ref (([(x_C_InvalidTable K), (x_C_InvalidSchema K), (x_C_InvalidRow K), (x_C_OtherSchema K), (x_C_InvalidRule K), (x_C_Misfit K), (x_C_Circle K), (x_C_InvalidFact K), (x_C_InvalidChange K), (x_C_InvalidAnswer K), (x_C_InvalidTemplate K), (x_C_InvalidNames K), (x_C_InvalidPair K), (x_C_InvalidLimit K), (x_C_Unreadable K), (x_C_NoLine K), (x_C_UnknownTable K), (x_C_UnknownColumn K), (x_C_OutOfRange K), (x_C_NoAnswer K), (x_C_NoCase K), (x_C_NoBranch K), (x_C_Nothing K), (x_C_TooMany K), (x_C_TooDear K), (x_C_Broken K), (x_C_Unfit K), (x_C_NeverFits K), (x_C_Refused K), (x_C_LookFailed K), (x_C_NoLook K)] : List Addr).getD i 0)) (.type ((["ValueError", "LookupError", "OverflowError", "RuntimeError"] : List String).getD j "")) = some (decide (([0, 0, 0, 0, 0, 0, 0, 0, 0, 0, 0, 0, 0, 0, 0, 0, 1, 1, 1, 1, 1, 1, 1, 2, 2, 3, 3, 3, 3, 3, 3] : List Nat).getD i 9 = j)))) = true) && (decide ((List.range 31).all (fun i => decide (PySem.W.kitAny K (.ref (([(x_C_InvalidTable K), (x_C_InvalidSchema K), (x_C_InvalidRow K), (x_C_OtherSchema K), (x_C_InvalidRule K), (x_C_Misfit K), (x_C_Circle K), (x_C_InvalidFact K), (x_C_InvalidChange K), (x_C_InvalidAnswer K), (x_C_InvalidTemplate K), (x_C_InvalidNames K), (x_C_InvalidPair K), (x_C_InvalidLimit K), (x_C_Unreadable K), (x_C_NoLine K), (x_C_UnknownTable K), (x_C_UnknownColumn K), (x_C_OutOfRange K), (x_C_NoAnswer K), (x_C_NoCase K), (x_C_NoBranch K), (x_C_Nothing K), (x_C_TooMany K), (x_C_TooDear K), (x_C_Broken K), (x_C_Unfit K), (x_C_NeverFits K), (x_C_Refused K), (x_C_LookFailed K), (x_C_NoLook K)] : List Addr).getD i 0)) [.type "IndexError", .type "KeyError", .type "NotImplementedError"] = some false)) = true) && (decide (PySem.W.findIn K (.ref (x_C_InvalidTable K)) "__getattribute__" = some (some (.builtin "BaseException.__getattribute__"))) && (decide (PySem.W.findIn K (.ref (x_C_InvalidTable K)) "__getattr__" = some none) && (decide (PySem.W.findIn K (.ref (x_C_InvalidTable K)) "__class__" = some (some (.builtin "object.__class__"))) && (decide (PySem.W.mroIn K (x_C_InvalidTable K) (.type "object") = some true) && (decide (PySem.W.specialIn K (.builtin "object.__class__") "__get__" = some (some (.builtin "getset_descriptor.__get__"))) && (decide (PySem.W.takesIn K (.builtin "object.__class__") = some true) && (decide (PySem.W.findIn K (.ref (x_C_InvalidTable K)) "argument" = some none) && (decide (PySem.W.findIn K (.ref (x_C_InvalidSchema K)) "__getattribute__" = some (some (.builtin "BaseException.__getattribute__"))) && (decide (PySem.W.findIn K (.ref (x_C_InvalidSchema K)) "__getattr__" = some none) && (decide (PySem.W.findIn K (.ref (x_C_InvalidSchema K)) "__class__" = some (some (.builtin "object.__class__"))) && (decide (PySem.W.mroIn K (x_C_InvalidSchema K) (.type "object") = some true) && (decide (PySem.W.hasDictIn K (x_C_InvalidSchema K) = true) && (decide (PySem.W.findIn K (.ref (x_C_InvalidRow K)) "__getattribute__" = some (some (.builtin "BaseException.__getattribute__"))) && (decide (PySem.W.findIn K (.ref (x_C_InvalidRow K)) "__getattr__" = some none) && (decide (PySem.W.findIn K (.ref (x_C_InvalidRow K)) "__class__" = some (some (.builtin "object.__class__"))))))))))))))))))))))))))))))))
theorem ck20_ok {K : Frg} (c : ck20 K = true) : (intQ K "MAX_WORD" 8 = true) ∧ (intQ K "MAX_TABLES" 4 = true) ∧ (intQ K "MAX_COLUMNS" 3 = true) ∧ (intQ K "MAX_STATEMENTS" 5 = true) ∧ (intQ K "MAX_LEAST" 2 = true) ∧ (intQ K "MAX_MOST" 3 = true) ∧ (intQ K "MAX_ENTRIES" 3 = true) ∧ (intQ K "MAX_WANTED" 16 = true) ∧ (intQ K "MAX_PAPER" 6 = true) ∧ (intQ K "MAX_ANSWERS" 200 = true) ∧ (intQ K "MAX_OPEN" 8 = true) ∧ (intQ K "MAX_NAMES" 4 = true) ∧ ((List.range 31).all (fun i => (List.range 31).all fun j => decide (PySem.W.kitOne K (.ref (([(x_C_InvalidTable K), (x_C_InvalidSchema K), (x_C_InvalidRow K), (x_C_OtherSchema K), (x_C_InvalidRule K), (x_C_Misfit K), (x_C_Circle K), (x_C_InvalidFact K), (x_C_InvalidChange K), (x_C_InvalidAnswer K), (x_C_InvalidTemplate K), (x_C_InvalidNames K), (x_C_InvalidPair K), (x_C_InvalidLimit K), (x_C_Unreadable K), (x_C_NoLine K), (x_C_UnknownTable K), (x_C_UnknownColumn K), (x_C_OutOfRange K), (x_C_NoAnswer K), (x_C_NoCase K), (x_C_NoBranch K), (x_C_Nothing K), (x_C_TooMany K), (x_C_TooDear K), (x_C_Broken K), (x_C_Unfit K), (x_C_NeverFits K), (x_C_Refused K), (x_C_LookFailed K), (x_C_NoLook K)] : List Addr).getD i 0)) (.ref (([(x_C_InvalidTable K), (x_C_InvalidSchema K), (x_C_InvalidRow K), (x_C_OtherSchema K), (x_C_InvalidRule K), (x_C_Misfit K), (x_C_Circle K), (x_C_InvalidFact K), (x_C_InvalidChange K), (x_C_InvalidAnswer K), (x_C_InvalidTemplate K), (x_C_InvalidNames K), (x_C_InvalidPair K), (x_C_InvalidLimit K), (x_C_Unreadable K), (x_C_NoLine K), (x_C_UnknownTable K), (x_C_UnknownColumn K), (x_C_OutOfRange K), (x_C_NoAnswer K), (x_C_NoCase K), (x_C_NoBranch K), (x_C_Nothing K), (x_C_TooMany K), (x_C_TooDear K), (x_C_Broken K), (x_C_Unfit K), (x_C_NeverFits K), (x_C_Refused K), (x_C_LookFailed K), (x_C_NoLook K)] : List Addr).getD j 0)) = some (decide (i = j)))) = true) ∧ ((List.range 31).all (fun i => (List.range 4).all fun j => decide (PySem.W.kitOne K (.ref (([(x_C_InvalidTable K), (x_C_InvalidSchema K), (x_C_InvalidRow K), (x_C_OtherSchema K), (x_C_InvalidRule K), (x_C_Misfit K), (x_C_Circle K), (x_C_InvalidFact K), (x_C_InvalidChange K), (x_C_InvalidAnswer K), (x_C_InvalidTemplate K), (x_C_InvalidNames K), (x_C_InvalidPair K), (x_C_InvalidLimit K), (x_C_Unreadable K), (x_C_NoLine K), (x_C_UnknownTable K), (x_C_UnknownColumn K), (x_C_OutOfRange K), (x_C_NoAnswer K), (x_C_NoCase K), (x_C_NoBranch K), (x_C_Nothing K), (x_C_TooMany K), (x_C_TooDear K), (x_C_Broken K), (x_C_Unfit K), (x_C_NeverFits K), (x_C_Refused K), (x_C_LookFailed K), (x_C_NoLook K)] : List Addr).getD i 0)) (.type ((["ValueError", "LookupError", "OverflowError", "RuntimeError"] : List String).getD j "")) = some (decide (([0, 0, 0, 0, 0, 0, 0, 0, 0, 0, 0, 0, 0, 0, 0, 0, 1, 1, 1, 1, 1, 1, 1, 2, 2, 3, 3, 3, 3, 3, 3] : List Nat).getD i 9 = j)))) = true) ∧ ((List.range 31).all (fun i => decide (PySem.W.kitAny K (.ref (([(x_C_InvalidTable K), (x_C_InvalidSchema K), (x_C_InvalidRow K), (x_C_OtherSchema K), (x_C_InvalidRule K), (x_C_Misfit K), (x_C_Circle K), (x_C_InvalidFact K), (x_C_InvalidChange K), (x_C_InvalidAnswer K), (x_C_InvalidTemplate K), (x_C_InvalidNames K), (x_C_InvalidPair K), (x_C_InvalidLimit K), (x_C_Unreadable K), (x_C_NoLine K), (x_C_UnknownTable K), (x_C_UnknownColumn K), (x_C_OutOfRange K), (x_C_NoAnswer K), (x_C_NoCase K), (x_C_NoBranch K), (x_C_Nothing K), (x_C_TooMany K), (x_C_TooDear K), (x_C_Broken K), (x_C_Unfit K), (x_C_NeverFits K), (x_C_Refused K), (x_C_LookFailed K), (x_C_NoLook K)] : List Addr).getD i 0)) [.type "IndexError", .type "KeyError", .type "NotImplementedError"] = some false)) = true) ∧ (PySem.W.findIn K (.ref (x_C_InvalidTable K)) "__getattribute__" = some (some (.builtin "BaseException.__getattribute__"))) ∧ (PySem.W.findIn K (.ref (x_C_InvalidTable K)) "__getattr__" = some none) ∧ (PySem.W.findIn K (.ref (x_C_InvalidTable K)) "__class__" = some (some (.builtin "object.__class__"))) ∧ (PySem.W.mroIn K (x_C_InvalidTable K) (.type "object") = some true) ∧ (PySem.W.specialIn K (.builtin "object.__class__") "__get__" = some (some (.builtin "getset_descriptor.__get__"))) ∧ (PySem.W.takesIn K (.builtin "object.__class__") = some true) ∧ (PySem.W.findIn K (.ref (x_C_InvalidTable K)) "argument" = some none) ∧ (PySem.W.findIn K (.ref (x_C_InvalidSchema K)) "__getattribute__" = some (some (.builtin "BaseException.__getattribute__"))) ∧ (PySem.W.findIn K (.ref (x_C_InvalidSchema K)) "__getattr__" = some none) ∧ (PySem.W.findIn K (.ref (x_C_InvalidSchema K)) "__class__" = some (some (.builtin "object.__class__"))) ∧ (PySem.W.mroIn K (x_C_InvalidSchema K) (.type "object") = some true) ∧ (PySem.W.hasDictIn K (x_C_InvalidSchema K) = true) ∧ (PySem.W.findIn K (.ref (x_C_InvalidRow K)) "__getattribute__" = some (some (.builtin "BaseException.__getattribute__"))) ∧ (PySem.W.findIn K (.ref (x_C_InvalidRow K)) "__getattr__" = some none) ∧ (PySem.W.findIn K (.ref (x_C_InvalidRow K)) "__class__" = some (some (.builtin "object.__class__"))) := by
  unfold ck20 at c
  simp only [Bool.and_eq_true, decide_eq_true_eq] at c
  exact c
def ck21 (K : Frg) : Bool := decide (PySem.W.mroIn K (x_C_InvalidRow K) (.type "object") = some true) && (decide (PySem.W.findIn K (.ref (x_C_InvalidRow K)) "value" = some none) && (decide (PySem.W.findIn K (.ref (x_C_OtherSchema K)) "__getattribute__" = some (some (.builtin "BaseException.__getattribute__"))) && (decide (PySem.W.findIn K (.ref (x_C_OtherSchema K)) "__getattr__" = some none) && (decide (PySem.W.findIn K (.ref (x_C_OtherSchema K)) "__class__" = some (some (.builtin "object.__class__"))) && (decide (PySem.W.mroIn K (x_C_OtherSchema K) (.type "object") = some true) && (decide (PySem.W.hasDictIn K (x_C_OtherSchema K) = true) && (decide (PySem.W.findIn K (.ref (x_C_InvalidRule K)) "__getattribute__" = some (some (.builtin "BaseException.__getattribute__"))) && (decide (PySem.W.findIn K (.ref (x_C_InvalidRule K)) "__getattr__" = some none) && (decide (PySem.W.findIn K (.ref (x_C_InvalidRule K)) "__class__" = some (some (.builtin "object.__class__"))) && (decide (PySem.W.mroIn K (x_C_InvalidRule K) (.type "object") = some true) && (decide (PySem.W.findIn K (.ref (x_C_InvalidRule K)) "argument" = some none) && (decide (PySem.W.findIn K (.ref (x_C_Misfit K)) "__getattribute__" = some (some (.builtin "BaseException.__getattribute__"))) && (decide (PySem.W.findIn K (.ref (x_C_Misfit K)) "__getattr__" = some none) && (decide (PySem.W.findIn K (.ref (x_C_Misfit K)) "__class__" = some (some (.builtin "object.__class__"))) && (decide (PySem.W.mroIn K (x_C_Misfit K) (.type "object") = some true) && (decide (PySem.W.findIn K (.ref (x_C_Misfit K)) "index" = some none) && (decide (PySem.W.findIn K (.ref (x_C_Circle K)) "__getattribute__" = some (some (.builtin "BaseException.__getattribute__"))) && (decide (PySem.W.findIn K (.ref (x_C_Circle K)) "__getattr__" = some none) && (decide (PySem.W.findIn K (.ref (x_C_Circle K)) "__class__" = some (some (.builtin "object.__class__"))) && (decide (PySem.W.mroIn K (x_C_Circle K) (.type "object") = some true) && (decide (PySem.W.findIn K (.ref (x_C_Circle K)) "value" = some none) && (decide (PySem.W.findIn K (.ref (x_C_InvalidFact K)) "__getattribute__" = some (some (.builtin "BaseException.__getattribute__"))) && (decide (PySem.W.findIn K (.ref (x_C_InvalidFact K)) "__getattr__" = some none) && (decide (PySem.W.findIn K (.ref (x_C_InvalidFact K)) "__class__" = some (some (.builtin "object.__class__"))) && (decide (PySem.W.mroIn K (x_C_InvalidFact K) (.type "object") = some true) && (decide (PySem.W.findIn K (.ref (x_C_InvalidFact K)) "index" = some none) && (decide (PySem.W.findIn K (.ref (x_C_InvalidChange K)) "__getattribute__" = some (some (.builtin "BaseException.__getattribute__"))) && (decide (PySem.W.findIn K (.ref (x_C_InvalidChange K)) "__getattr__" = some none) && (decide (PySem.W.findIn K (.ref (x_C_InvalidChange K)) "__class__" = some (some (.builtin "object.__class__"))))))))))))))))))))))))))))))))
theorem ck21_ok {K : Frg} (c : ck21 K = true) : (PySem.W.mroIn K (x_C_InvalidRow K) (.type "object") = some true) ∧ (PySem.W.findIn K (.ref (x_C_InvalidRow K)) "value" = some none) ∧ (PySem.W.findIn K (.ref (x_C_OtherSchema K)) "__getattribute__" = some (some (.builtin "BaseException.__getattribute__"))) ∧ (PySem.W.findIn K (.ref (x_C_OtherSchema K)) "__getattr__" = some none) ∧ (PySem.W.findIn K (.ref (x_C_OtherSchema K)) "__class__" = some (some (.builtin "object.__class__"))) ∧ (PySem.W.mroIn K (x_C_OtherSchema K) (.type "object") = some true) ∧ (PySem.W.hasDictIn K (x_C_OtherSchema K) = true) ∧ (PySem.W.findIn K (.ref (x_C_InvalidRule K)) "__getattribute__" = some (some (.builtin "BaseException.__getattribute__"))) ∧ (PySem.W.findIn K (.ref (x_C_InvalidRule K)) "__getattr__" = some none) ∧ (PySem.W.findIn K (.ref (x_C_InvalidRule K)) "__class__" = some (some (.builtin "object.__class__"))) ∧ (PySem.W.mroIn K (x_C_InvalidRule K) (.type "object") = some true) ∧ (PySem.W.findIn K (.ref (x_C_InvalidRule K)) "argument" = some none) ∧ (PySem.W.findIn K (.ref (x_C_Misfit K)) "__getattribute__" = some (some (.builtin "BaseException.__getattribute__"))) ∧ (PySem.W.findIn K (.ref (x_C_Misfit K)) "__getattr__" = some none) ∧ (PySem.W.findIn K (.ref (x_C_Misfit K)) "__class__" = some (some (.builtin "object.__class__"))) ∧ (PySem.W.mroIn K (x_C_Misfit K) (.type "object") = some true) ∧ (PySem.W.findIn K (.ref (x_C_Misfit K)) "index" = some none) ∧ (PySem.W.findIn K (.ref (x_C_Circle K)) "__getattribute__" = some (some (.builtin "BaseException.__getattribute__"))) ∧ (PySem.W.findIn K (.ref (x_C_Circle K)) "__getattr__" = some none) ∧ (PySem.W.findIn K (.ref (x_C_Circle K)) "__class__" = some (some (.builtin "object.__class__"))) ∧ (PySem.W.mroIn K (x_C_Circle K) (.type "object") = some true) ∧ (PySem.W.findIn K (.ref (x_C_Circle K)) "value" = some none) ∧ (PySem.W.findIn K (.ref (x_C_InvalidFact K)) "__getattribute__" = some (some (.builtin "BaseException.__getattribute__"))) ∧ (PySem.W.findIn K (.ref (x_C_InvalidFact K)) "__getattr__" = some none) ∧ (PySem.W.findIn K (.ref (x_C_InvalidFact K)) "__class__" = some (some (.builtin "object.__class__"))) ∧ (PySem.W.mroIn K (x_C_InvalidFact K) (.type "object") = some true) ∧ (PySem.W.findIn K (.ref (x_C_InvalidFact K)) "index" = some none) ∧ (PySem.W.findIn K (.ref (x_C_InvalidChange K)) "__getattribute__" = some (some (.builtin "BaseException.__getattribute__"))) ∧ (PySem.W.findIn K (.ref (x_C_InvalidChange K)) "__getattr__" = some none) ∧ (PySem.W.findIn K (.ref (x_C_InvalidChange K)) "__class__" = some (some (.builtin "object.__class__"))) := by
  unfold ck21 at c
  simp only [Bool.and_eq_true, decide_eq_true_eq] at c
  exact c
def ck22 (K : Frg) : Bool := decide (PySem.W.mroIn K (x_C_InvalidChange K) (.type "object") = some true) && (decide (PySem.W.findIn K (.ref (x_C_InvalidChange K)) "index" = some none) && (decide (PySem.W.findIn K (.ref (x_C_InvalidAnswer K)) "__getattribute__" = some (some (.builtin "BaseException.__getattribute__"))) && (decide (PySem.W.findIn K (.ref (x_C_InvalidAnswer K)) "__getattr__" = some none) && (decide (PySem.W.findIn K (.ref (x_C_InvalidAnswer K)) "__class__" = some (some (.builtin "object.__class__"))) && (decide (PySem.W.mroIn K (x_C_InvalidAnswer K) (.type "object") = some true) && (decide (PySem.W.findIn K (.ref (x_C_InvalidAnswer K)) "value" = some none) && (decide (PySem.W.findIn K (.ref (x_C_InvalidTemplate K)) "__getattribute__" = some (some (.builtin "BaseException.__getattribute__"))) && (decide (PySem.W.findIn K (.ref (x_C_InvalidTemplate K)) "__getattr__" = some none) && (decide (PySem.W.findIn K (.ref (x_C_InvalidTemplate K)) "__class__" = some (some (.builtin "object.__class__"))) && (decide (PySem.W.mroIn K (x_C_InvalidTemplate K) (.type "object") = some true) && (decide (PySem.W.findIn K (.ref (x_C_InvalidTemplate K)) "index" = some none) && (decide (PySem.W.findIn K (.ref (x_C_InvalidNames K)) "__getattribute__" = some (some (.builtin "BaseException.__getattribute__"))) && (decide (PySem.W.findIn K (.ref (x_C_InvalidNames K)) "__getattr__" = some none) && (decide (PySem.W.findIn K (.ref (x_C_InvalidNames K)) "__class__" = some (some (.builtin "object.__class__"))) && (decide (PySem.W.mroIn K (x_C_InvalidNames K) (.type "object") = some true) && (decide (PySem.W.findIn K (.ref (x_C_InvalidNames K)) "value" = some none) && (decide (PySem.W.findIn K (.ref (x_C_InvalidPair K)) "__getattribute__" = some (some (.builtin "BaseException.__getattribute__"))) && (decide (PySem.W.findIn K (.ref (x_C_InvalidPair K)) "__getattr__" = some none) && (decide (PySem.W.findIn K (.ref (x_C_InvalidPair K)) "__class__" = some (some (.builtin "object.__class__"))) && (decide (PySem.W.mroIn K (x_C_InvalidPair K) (.type "object") = some true) && (decide (PySem.W.hasDictIn K (x_C_InvalidPair K) = true) && (decide (PySem.W.findIn K (.ref (x_C_InvalidLimit K)) "__getattribute__" = some (some (.builtin "BaseException.__getattribute__"))) && (decide (PySem.W.findIn K (.ref (x_C_InvalidLimit K)) "__getattr__" = some none) && (decide (PySem.W.findIn K (.ref (x_C_InvalidLimit K)) "__class__" = some (some (.builtin "object.__class__"))) && (decide (PySem.W.mroIn K (x_C_InvalidLimit K) (.type "object") = some true) && (decide (PySem.W.findIn K (.ref (x_C_InvalidLimit K)) "value" = some none) && (decide (PySem.W.findIn K (.ref (x_C_Unreadable K)) "__getattribute__" = some (some (.builtin "BaseException.__getattribute__"))) && (decide (PySem.W.findIn K (.ref (x_C_Unreadable K)) "__getattr__" = some none) && (decide (PySem.W.findIn K (.ref (x_C_Unreadable K)) "__class__" = some (some (.builtin "object.__class__"))))))))))))))))))))))))))))))))
theorem ck22_ok {K : Frg} (c : ck22 K = true) : (PySem.W.mroIn K (x_C_InvalidChange K) (.type "object") = some true) ∧ (PySem.W.findIn K (.ref (x_C_InvalidChange K)) "index" = some none) ∧ (PySem.W.findIn K (.ref (x_C_InvalidAnswer K)) "__getattribute__" = some (some (.builtin "BaseException.__getattribute__"))) ∧ (PySem.W.findIn K (.ref (x_C_InvalidAnswer K)) "__getattr__" = some none) ∧ (PySem.W.findIn K (.ref (x_C_InvalidAnswer K)) "__class__" = some (some (.builtin "object.__class__"))) ∧ (PySem.W.mroIn K (x_C_InvalidAnswer K) (.type "object") = some true) ∧ (PySem.W.findIn K (.ref (x_C_InvalidAnswer K)) "value" = some none) ∧ (PySem.W.findIn K (.ref (x_C_InvalidTemplate K)) "__getattribute__" = some (some (.builtin "BaseException.__getattribute__"))) ∧ (PySem.W.findIn K (.ref (x_C_InvalidTemplate K)) "__getattr__" = some none) ∧ (PySem.W.findIn K (.ref (x_C_InvalidTemplate K)) "__class__" = some (some (.builtin "object.__class__"))) ∧ (PySem.W.mroIn K (x_C_InvalidTemplate K) (.type "object") = some true) ∧ (PySem.W.findIn K (.ref (x_C_InvalidTemplate K)) "index" = some none) ∧ (PySem.W.findIn K (.ref (x_C_InvalidNames K)) "__getattribute__" = some (some (.builtin "BaseException.__getattribute__"))) ∧ (PySem.W.findIn K (.ref (x_C_InvalidNames K)) "__getattr__" = some none) ∧ (PySem.W.findIn K (.ref (x_C_InvalidNames K)) "__class__" = some (some (.builtin "object.__class__"))) ∧ (PySem.W.mroIn K (x_C_InvalidNames K) (.type "object") = some true) ∧ (PySem.W.findIn K (.ref (x_C_InvalidNames K)) "value" = some none) ∧ (PySem.W.findIn K (.ref (x_C_InvalidPair K)) "__getattribute__" = some (some (.builtin "BaseException.__getattribute__"))) ∧ (PySem.W.findIn K (.ref (x_C_InvalidPair K)) "__getattr__" = some none) ∧ (PySem.W.findIn K (.ref (x_C_InvalidPair K)) "__class__" = some (some (.builtin "object.__class__"))) ∧ (PySem.W.mroIn K (x_C_InvalidPair K) (.type "object") = some true) ∧ (PySem.W.hasDictIn K (x_C_InvalidPair K) = true) ∧ (PySem.W.findIn K (.ref (x_C_InvalidLimit K)) "__getattribute__" = some (some (.builtin "BaseException.__getattribute__"))) ∧ (PySem.W.findIn K (.ref (x_C_InvalidLimit K)) "__getattr__" = some none) ∧ (PySem.W.findIn K (.ref (x_C_InvalidLimit K)) "__class__" = some (some (.builtin "object.__class__"))) ∧ (PySem.W.mroIn K (x_C_InvalidLimit K) (.type "object") = some true) ∧ (PySem.W.findIn K (.ref (x_C_InvalidLimit K)) "value" = some none) ∧ (PySem.W.findIn K (.ref (x_C_Unreadable K)) "__getattribute__" = some (some (.builtin "BaseException.__getattribute__"))) ∧ (PySem.W.findIn K (.ref (x_C_Unreadable K)) "__getattr__" = some none) ∧ (PySem.W.findIn K (.ref (x_C_Unreadable K)) "__class__" = some (some (.builtin "object.__class__"))) := by
  unfold ck22 at c
  simp only [Bool.and_eq_true, decide_eq_true_eq] at c
  exact c
def ck23 (K : Frg) : Bool := decide (PySem.W.mroIn K (x_C_Unreadable K) (.type "object") = some true) && (decide (PySem.W.findIn K (.ref (x_C_Unreadable K)) "index" = some none) && (decide (PySem.W.findIn K (.ref (x_C_NoLine K)) "__getattribute__" = some (some (.builtin "BaseException.__getattribute__"))) && (decide (PySem.W.findIn K (.ref (x_C_NoLine K)) "__getattr__" = some none) && (decide (PySem.W.findIn K (.ref (x_C_NoLine K)) "__class__" = some (some (.builtin "object.__class__"))) && (decide (PySem.W.mroIn K (x_C_NoLine K) (.type "object") = some true) && (decide (PySem.W.hasDictIn K (x_C_NoLine K) = true) && (decide (PySem.W.findIn K (.ref (x_C_UnknownTable K)) "__getattribute__" = some (some (.builtin "BaseException.__getattribute__"))) && (decide (PySem.W.findIn K (.ref (x_C_UnknownTable K)) "__getattr__" = some none) && (decide (PySem.W.findIn K (.ref (x_C_UnknownTable K)) "__class__" = some (some (.builtin "object.__class__"))) && (decide (PySem.W.mroIn K (x_C_UnknownTable K) (.type "object") = some true) && (decide (PySem.W.findIn K (.ref (x_C_UnknownTable K)) "value" = some none) && (decide (PySem.W.findIn K (.ref (x_C_UnknownColumn K)) "__getattribute__" = some (some (.builtin "BaseException.__getattribute__"))) && (decide (PySem.W.findIn K (.ref (x_C_UnknownColumn K)) "__getattr__" = some none) && (decide (PySem.W.findIn K (.ref (x_C_UnknownColumn K)) "__class__" = some (some (.builtin "object.__class__"))) && (decide (PySem.W.mroIn K (x_C_UnknownColumn K) (.type "object") = some true) && (decide (PySem.W.findIn K (.ref (x_C_UnknownColumn K)) "value" = some none) && (decide (PySem.W.findIn K (.ref (x_C_OutOfRange K)) "__getattribute__" = some (some (.builtin "BaseException.__getattribute__"))) && (decide (PySem.W.findIn K (.ref (x_C_OutOfRange K)) "__getattr__" = some none) && (decide (PySem.W.findIn K (.ref (x_C_OutOfRange K)) "__class__" = some (some (.builtin "object.__class__"))) && (decide (PySem.W.mroIn K (x_C_OutOfRange K) (.type "object") = some true) && (decide (PySem.W.findIn K (.ref (x_C_OutOfRange K)) "value" = some none) && (decide (PySem.W.findIn K (.ref (x_C_NoAnswer K)) "__getattribute__" = some (some (.builtin "BaseException.__getattribute__"))) && (decide (PySem.W.findIn K (.ref (x_C_NoAnswer K)) "__getattr__" = some none) && (decide (PySem.W.findIn K (.ref (x_C_NoAnswer K)) "__class__" = some (some (.builtin "object.__class__"))) && (decide (PySem.W.mroIn K (x_C_NoAnswer K) (.type "object") = some true) && (decide (PySem.W.findIn K (.ref (x_C_NoAnswer K)) "value" = some none) && (decide (PySem.W.findIn K (.ref (x_C_NoCase K)) "__getattribute__" = some (some (.builtin "BaseException.__getattribute__"))) && (decide (PySem.W.findIn K (.ref (x_C_NoCase K)) "__getattr__" = some none) && (decide (PySem.W.findIn K (.ref (x_C_NoCase K)) "__class__" = some (some (.builtin "object.__class__"))))))))))))))))))))))))))))))))
theorem ck23_ok {K : Frg} (c : ck23 K = true) : (PySem.W.mroIn K (x_C_Unreadable K) (.type "object") = some true) ∧ (PySem.W.findIn K (.ref (x_C_Unreadable K)) "index" = some none) ∧ (PySem.W.findIn K (.ref (x_C_NoLine K)) "__getattribute__" = some (some (.builtin "BaseException.__getattribute__"))) ∧ (PySem.W.findIn K (.ref (x_C_NoLine K)) "__getattr__" = some none) ∧ (PySem.W.findIn K (.ref (x_C_NoLine K)) "__class__" = some (some (.builtin "object.__class__"))) ∧ (PySem.W.mroIn K (x_C_NoLine K) (.type "object") = some true) ∧ (PySem.W.hasDictIn K (x_C_NoLine K) = true) ∧ (PySem.W.findIn K (.ref (x_C_UnknownTable K)) "__getattribute__" = some (some (.builtin "BaseException.__getattribute__"))) ∧ (PySem.W.findIn K (.ref (x_C_UnknownTable K)) "__getattr__" = some none) ∧ (PySem.W.findIn K (.ref (x_C_UnknownTable K)) "__class__" = some (some (.builtin "object.__class__"))) ∧ (PySem.W.mroIn K (x_C_UnknownTable K) (.type "object") = some true) ∧ (PySem.W.findIn K (.ref (x_C_UnknownTable K)) "value" = some none) ∧ (PySem.W.findIn K (.ref (x_C_UnknownColumn K)) "__getattribute__" = some (some (.builtin "BaseException.__getattribute__"))) ∧ (PySem.W.findIn K (.ref (x_C_UnknownColumn K)) "__getattr__" = some none) ∧ (PySem.W.findIn K (.ref (x_C_UnknownColumn K)) "__class__" = some (some (.builtin "object.__class__"))) ∧ (PySem.W.mroIn K (x_C_UnknownColumn K) (.type "object") = some true) ∧ (PySem.W.findIn K (.ref (x_C_UnknownColumn K)) "value" = some none) ∧ (PySem.W.findIn K (.ref (x_C_OutOfRange K)) "__getattribute__" = some (some (.builtin "BaseException.__getattribute__"))) ∧ (PySem.W.findIn K (.ref (x_C_OutOfRange K)) "__getattr__" = some none) ∧ (PySem.W.findIn K (.ref (x_C_OutOfRange K)) "__class__" = some (some (.builtin "object.__class__"))) ∧ (PySem.W.mroIn K (x_C_OutOfRange K) (.type "object") = some true) ∧ (PySem.W.findIn K (.ref (x_C_OutOfRange K)) "value" = some none) ∧ (PySem.W.findIn K (.ref (x_C_NoAnswer K)) "__getattribute__" = some (some (.builtin "BaseException.__getattribute__"))) ∧ (PySem.W.findIn K (.ref (x_C_NoAnswer K)) "__getattr__" = some none) ∧ (PySem.W.findIn K (.ref (x_C_NoAnswer K)) "__class__" = some (some (.builtin "object.__class__"))) ∧ (PySem.W.mroIn K (x_C_NoAnswer K) (.type "object") = some true) ∧ (PySem.W.findIn K (.ref (x_C_NoAnswer K)) "value" = some none) ∧ (PySem.W.findIn K (.ref (x_C_NoCase K)) "__getattribute__" = some (some (.builtin "BaseException.__getattribute__"))) ∧ (PySem.W.findIn K (.ref (x_C_NoCase K)) "__getattr__" = some none) ∧ (PySem.W.findIn K (.ref (x_C_NoCase K)) "__class__" = some (some (.builtin "object.__class__"))) := by
  unfold ck23 at c
  simp only [Bool.and_eq_true, decide_eq_true_eq] at c
  exact c
def ck24 (K : Frg) : Bool := decide (PySem.W.mroIn K (x_C_NoCase K) (.type "object") = some true) && (decide (PySem.W.findIn K (.ref (x_C_NoCase K)) "case" = some none) && (decide (PySem.W.findIn K (.ref (x_C_NoBranch K)) "__getattribute__" = some (some (.builtin "BaseException.__getattribute__"))) && (decide (PySem.W.findIn K (.ref (x_C_NoBranch K)) "__getattr__" = some none) && (decide (PySem.W.findIn K (.ref (x_C_NoBranch K)) "__class__" = some (some (.builtin "object.__class__"))) && (decide (PySem.W.mroIn K (x_C_NoBranch K) (.type "object") = some true) && (decide (PySem.W.findIn K (.ref (x_C_NoBranch K)) "value" = some none) && (decide (PySem.W.findIn K (.ref (x_C_Nothing K)) "__getattribute__" = some (some (.builtin "BaseException.__getattribute__"))) && (decide (PySem.W.findIn K (.ref (x_C_Nothing K)) "__getattr__" = some none) && (decide (PySem.W.findIn K (.ref (x_C_Nothing K)) "__class__" = some (some (.builtin "object.__class__"))) && (decide (PySem.W.mroIn K (x_C_Nothing K) (.type "object") = some true) && (decide (PySem.W.hasDictIn K (x_C_Nothing K) = true) && (decide (PySem.W.findIn K (.ref (x_C_TooMany K)) "__getattribute__" = some (some (.builtin "BaseException.__getattribute__"))) && (decide (PySem.W.findIn K (.ref (x_C_TooMany K)) "__getattr__" = some none) && (decide (PySem.W.findIn K (.ref (x_C_TooMany K)) "__class__" = some (some (.builtin "object.__class__"))) && (decide (PySem.W.mroIn K (x_C_TooMany K) (.type "object") = some true) && (decide (PySem.W.findIn K (.ref (x_C_TooMany K)) "limit" = some none) && (decide (PySem.W.findIn K (.ref (x_C_TooDear K)) "__getattribute__" = some (some (.builtin "BaseException.__getattribute__"))) && (decide (PySem.W.findIn K (.ref (x_C_TooDear K)) "__getattr__" = some none) && (decide (PySem.W.findIn K (.ref (x_C_TooDear K)) "__class__" = some (some (.builtin "object.__class__"))) && (decide (PySem.W.mroIn K (x_C_TooDear K) (.type "object") = some true) && (decide (PySem.W.findIn K (.ref (x_C_TooDear K)) "number" = some none) && (decide (PySem.W.findIn K (.ref (x_C_Broken K)) "__getattribute__" = some (some (.builtin "BaseException.__getattribute__"))) && (decide (PySem.W.findIn K (.ref (x_C_Broken K)) "__getattr__" = some none) && (decide (PySem.W.findIn K (.ref (x_C_Broken K)) "__class__" = some (some (.builtin "object.__class__"))) && (decide (PySem.W.mroIn K (x_C_Broken K) (.type "object") = some true) && (decide (PySem.W.findIn K (.ref (x_C_Broken K)) "index" = some none) && (decide (PySem.W.findIn K (.ref (x_C_Broken K)) "spot" = some none) && (decide (PySem.W.findIn K (.ref (x_C_Unfit K)) "__getattribute__" = some (some (.builtin "BaseException.__getattribute__"))) && (decide (PySem.W.findIn K (.ref (x_C_Unfit K)) "__getattr__" = some none))))))))))))))))))))))))))))))
theorem ck24_ok {K : Frg} (c : ck24 K = true) : (PySem.W.mroIn K (x_C_NoCase K) (.type "object") = some true) ∧ (PySem.W.findIn K (.ref (x_C_NoCase K)) "case" = some none) ∧ (PySem.W.findIn K (.ref (x_C_NoBranch K)) "__getattribute__" = some (some (.builtin "BaseException.__getattribute__"))) ∧ (PySem.W.findIn K (.ref (x_C_NoBranch K)) "__getattr__" = some none) ∧ (PySem.W.findIn K (.ref (x_C_NoBranch K)) "__class__" = some (some (.builtin "object.__class__"))) ∧ (PySem.W.mroIn K (x_C_NoBranch K) (.type "object") = some true) ∧ (PySem.W.findIn K (.ref (x_C_NoBranch K)) "value" = some none) ∧ (PySem.W.findIn K (.ref (x_C_Nothing K)) "__getattribute__" = some (some (.builtin "BaseException.__getattribute__"))) ∧ (PySem.W.findIn K (.ref (x_C_Nothing K)) "__getattr__" = some none) ∧ (PySem.W.findIn K (.ref (x_C_Nothing K)) "__class__" = some (some (.builtin "object.__class__"))) ∧ (PySem.W.mroIn K (x_C_Nothing K) (.type "object") = some true) ∧ (PySem.W.hasDictIn K (x_C_Nothing K) = true) ∧ (PySem.W.findIn K (.ref (x_C_TooMany K)) "__getattribute__" = some (some (.builtin "BaseException.__getattribute__"))) ∧ (PySem.W.findIn K (.ref (x_C_TooMany K)) "__getattr__" = some none) ∧ (PySem.W.findIn K (.ref (x_C_TooMany K)) "__class__" = some (some (.builtin "object.__class__"))) ∧ (PySem.W.mroIn K (x_C_TooMany K) (.type "object") = some true) ∧ (PySem.W.findIn K (.ref (x_C_TooMany K)) "limit" = some none) ∧ (PySem.W.findIn K (.ref (x_C_TooDear K)) "__getattribute__" = some (some (.builtin "BaseException.__getattribute__"))) ∧ (PySem.W.findIn K (.ref (x_C_TooDear K)) "__getattr__" = some none) ∧ (PySem.W.findIn K (.ref (x_C_TooDear K)) "__class__" = some (some (.builtin "object.__class__"))) ∧ (PySem.W.mroIn K (x_C_TooDear K) (.type "object") = some true) ∧ (PySem.W.findIn K (.ref (x_C_TooDear K)) "number" = some none) ∧ (PySem.W.findIn K (.ref (x_C_Broken K)) "__getattribute__" = some (some (.builtin "BaseException.__getattribute__"))) ∧ (PySem.W.findIn K (.ref (x_C_Broken K)) "__getattr__" = some none) ∧ (PySem.W.findIn K (.ref (x_C_Broken K)) "__class__" = some (some (.builtin "object.__class__"))) ∧ (PySem.W.mroIn K (x_C_Broken K) (.type "object") = some true) ∧ (PySem.W.findIn K (.ref (x_C_Broken K)) "index" = some none) ∧ (PySem.W.findIn K (.ref (x_C_Broken K)) "spot" = some none) ∧ (PySem.W.findIn K (.ref (x_C_Unfit K)) "__getattribute__" = some (some (.builtin "BaseException.__getattribute__"))) ∧ (PySem.W.findIn K (.ref (x_C_Unfit K)) "__getattr__" = some none) := by
  unfold ck24 at c
  simp only [Bool.and_eq_true, decide_eq_true_eq] at c
  exact c
def ck25 (K : Frg) : Bool := decide (PySem.W.findIn K (.ref (x_C_Unfit K)) "__class__" = some (some (.builtin "object.__class__"))) && (decide (PySem.W.mroIn K (x_C_Unfit K) (.type "object") = some true) && (decide (PySem.W.findIn K (.ref (x_C_Unfit K)) "index" = some none) && (decide (PySem.W.findIn K (.ref (x_C_NeverFits K)) "__getattribute__" = some (some (.builtin "BaseException.__getattribute__"))) && (decide (PySem.W.findIn K (.ref (x_C_NeverFits K)) "__getattr__" = some none) && (decide (PySem.W.findIn K (.ref (x_C_NeverFits K)) "__class__" = some (some (.builtin "object.__class__"))) && (decide (PySem.W.mroIn K (x_C_NeverFits K) (.type "object") = some true) && (decide (PySem.W.hasDictIn K (x_C_NeverFits K) = true) && (decide (PySem.W.findIn K (.ref (x_C_Refused K)) "__getattribute__" = some (some (.builtin "BaseException.__getattribute__"))) && (decide (PySem.W.findIn K (.ref (x_C_Refused K)) "__getattr__" = some none) && (decide (PySem.W.findIn K (.ref (x_C_Refused K)) "__class__" = some (some (.builtin "object.__class__"))) && (decide (PySem.W.mroIn K (x_C_Refused K) (.type "object") = some true) && (decide (PySem.W.findIn K (.ref (x_C_Refused K)) "change" = some none) && (decide (PySem.W.findIn K (.ref (x_C_LookFailed K)) "__getattribute__" = some (some (.builtin "BaseException.__getattribute__"))) && (decide (PySem.W.findIn K (.ref (x_C_LookFailed K)) "__getattr__" = some none) && (decide (PySem.W.findIn K (.ref (x_C_LookFailed K)) "__class__" = some (some (.builtin "object.__class__"))) && (decide (PySem.W.mroIn K (x_C_LookFailed K) (.type "object") = some true) && (decide (PySem.W.findIn K (.ref (x_C_LookFailed K)) "number" = some none) && (decide (PySem.W.findIn K (.ref (x_C_NoLook K)) "__getattribute__" = some (some (.builtin "BaseException.__getattribute__"))) && (decide (PySem.W.findIn K (.ref (x_C_NoLook K)) "__getattr__" = some none) && (decide (PySem.W.findIn K (.ref (x_C_NoLook K)) "__class__" = some (some (.builtin "object.__class__"))) && (decide (PySem.W.mroIn K (x_C_NoLook K) (.type "object") = some true) && (decide (PySem.W.findIn K (.ref (x_C_NoLook K)) "value" = some none)))))))))))))))))))))))
theorem ck25_ok {K : Frg} (c : ck25 K = true) : (PySem.W.findIn K (.ref (x_C_Unfit K)) "__class__" = some (some (.builtin "object.__class__"))) ∧ (PySem.W.mroIn K (x_C_Unfit K) (.type "object") = some true) ∧ (PySem.W.findIn K (.ref (x_C_Unfit K)) "index" = some none) ∧ (PySem.W.findIn K (.ref (x_C_NeverFits K)) "__getattribute__" = some (some (.builtin "BaseException.__getattribute__"))) ∧ (PySem.W.findIn K (.ref (x_C_NeverFits K)) "__getattr__" = some none) ∧ (PySem.W.findIn K (.ref (x_C_NeverFits K)) "__class__" = some (some (.builtin "object.__class__"))) ∧ (PySem.W.mroIn K (x_C_NeverFits K) (.type "object") = some true) ∧ (PySem.W.hasDictIn K (x_C_NeverFits K) = true) ∧ (PySem.W.findIn K (.ref (x_C_Refused K)) "__getattribute__" = some (some (.builtin "BaseException.__getattribute__"))) ∧ (PySem.W.findIn K (.ref (x_C_Refused K)) "__getattr__" = some none) ∧ (PySem.W.findIn K (.ref (x_C_Refused K)) "__class__" = some (some (.builtin "object.__class__"))) ∧ (PySem.W.mroIn K (x_C_Refused K) (.type "object") = some true) ∧ (PySem.W.findIn K (.ref (x_C_Refused K)) "change" = some none) ∧ (PySem.W.findIn K (.ref (x_C_LookFailed K)) "__getattribute__" = some (some (.builtin "BaseException.__getattribute__"))) ∧ (PySem.W.findIn K (.ref (x_C_LookFailed K)) "__getattr__" = some none) ∧ (PySem.W.findIn K (.ref (x_C_LookFailed K)) "__class__" = some (some (.builtin "object.__class__"))) ∧ (PySem.W.mroIn K (x_C_LookFailed K) (.type "object") = some true) ∧ (PySem.W.findIn K (.ref (x_C_LookFailed K)) "number" = some none) ∧ (PySem.W.findIn K (.ref (x_C_NoLook K)) "__getattribute__" = some (some (.builtin "BaseException.__getattribute__"))) ∧ (PySem.W.findIn K (.ref (x_C_NoLook K)) "__getattr__" = some none) ∧ (PySem.W.findIn K (.ref (x_C_NoLook K)) "__class__" = some (some (.builtin "object.__class__"))) ∧ (PySem.W.mroIn K (x_C_NoLook K) (.type "object") = some true) ∧ (PySem.W.findIn K (.ref (x_C_NoLook K)) "value" = some none) := by
  unfold ck25 at c
  simp only [Bool.and_eq_true, decide_eq_true_eq] at c
  exact c
def ckAll (K : Frg) : Bool := ck0 K && (ck1 K && (ck2 K && (ck3 K && (ck4 K && (ck5 K && (ck6 K && (ck7 K && (ck8 K && (ck9 K && (ck10 K && (ck11 K && (ck12 K && (ck13 K && (ck14 K && (ck15 K && (ck16 K && (ck17 K && (ck18 K && (ck19 K && (ck20 K && (ck21 K && (ck22 K && (ck23 K && (ck24 K && (ck25 K)))))))))))))))))))))))))
theorem ckAll_ok {K : Frg} (c : ckAll K = true) : ck0 K = true ∧ ck1 K = true ∧ ck2 K = true ∧ ck3 K = true ∧ ck4 K = true ∧ ck5 K = true ∧ ck6 K = true ∧ ck7 K = true ∧ ck8 K = true ∧ ck9 K = true ∧ ck10 K = true ∧ ck11 K = true ∧ ck12 K = true ∧ ck13 K = true ∧ ck14 K = true ∧ ck15 K = true ∧ ck16 K = true ∧ ck17 K = true ∧ ck18 K = true ∧ ck19 K = true ∧ ck20 K = true ∧ ck21 K = true ∧ ck22 K = true ∧ ck23 K = true ∧ ck24 K = true ∧ ck25 K = true := by
  unfold ckAll at c
  simp only [Bool.and_eq_true] at c
  exact c
def fv0 (K : Frg) : List FnV := [fnV K (x_a_InvalidTable___init__ K), fnV K (x_a_InvalidRow___init__ K), fnV K (x_a_InvalidRule___init__ K), fnV K (x_a_Misfit___init__ K), fnV K (x_a_Circle___init__ K), fnV K (x_a_InvalidFact___init__ K), fnV K (x_a_InvalidChange___init__ K), fnV K (x_a_InvalidAnswer___init__ K), fnV K (x_a_InvalidTemplate___init__ K), fnV K (x_a_InvalidNames___init__ K), fnV K (x_a_InvalidLimit___init__ K), fnV K (x_a_Unreadable___init__ K), fnV K (x_a_UnknownTable___init__ K), fnV K (x_a_UnknownColumn___init__ K), fnV K (x_a_OutOfRange___init__ K)]
def vl0 : List FnV := [superV "__init__" "InvalidTable.__init__" s_InvalidTable___init__, superV "__init__" "InvalidRow.__init__" s_InvalidRow___init__, superV "__init__" "InvalidRule.__init__" s_InvalidRule___init__, superV "__init__" "Misfit.__init__" s_Misfit___init__, superV "__init__" "Circle.__init__" s_Circle___init__, superV "__init__" "InvalidFact.__init__" s_InvalidFact___init__, superV "__init__" "InvalidChange.__init__" s_InvalidChange___init__, superV "__init__" "InvalidAnswer.__init__" s_InvalidAnswer___init__, superV "__init__" "InvalidTemplate.__init__" s_InvalidTemplate___init__, superV "__init__" "InvalidNames.__init__" s_InvalidNames___init__, superV "__init__" "InvalidLimit.__init__" s_InvalidLimit___init__, superV "__init__" "Unreadable.__init__" s_Unreadable___init__, superV "__init__" "UnknownTable.__init__" s_UnknownTable___init__, superV "__init__" "UnknownColumn.__init__" s_UnknownColumn___init__, superV "__init__" "OutOfRange.__init__" s_OutOfRange___init__]
def fv1 (K : Frg) : List FnV := [fnV K (x_a_NoAnswer___init__ K), fnV K (x_a_NoCase___init__ K), fnV K (x_a_NoBranch___init__ K), fnV K (x_a_TooMany___init__ K), fnV K (x_a_TooDear___init__ K), fnV K (x_a_Broken___init__ K), fnV K (x_a_Unfit___init__ K), fnV K (x_a_Refused___init__ K), fnV K (x_a_LookFailed___init__ K), fnV K (x_a_NoLook___init__ K), fnV K (x_a__law_pen K), fnV K (x_a__law_draw K), fnV K (x_a__law_pick K), fnV K (x_a__law_any_value K), fnV K (x_a__law_some_errors K)]
def vl1 : List FnV := [superV "__init__" "NoAnswer.__init__" s_NoAnswer___init__, superV "__init__" "NoCase.__init__" s_NoCase___init__, superV "__init__" "NoBranch.__init__" s_NoBranch___init__, superV "__init__" "TooMany.__init__" s_TooMany___init__, superV "__init__" "TooDear.__init__" s_TooDear___init__, superV "__init__" "Broken.__init__" s_Broken___init__, superV "__init__" "Unfit.__init__" s_Unfit___init__, superV "__init__" "Refused.__init__" s_Refused___init__, superV "__init__" "LookFailed.__init__" s_LookFailed___init__, superV "__init__" "NoLook.__init__" s_NoLook___init__, plainV "_law_pen" "_law_pen" s__law_pen, plainV "_law_draw" "_law_draw" s__law_draw, plainV "_law_pick" "_law_pick" s__law_pick, plainV "_law_any_value" "_law_any_value" s__law_any_value, plainV "_law_some_errors" "_law_some_errors" s__law_some_errors]
def fv2 (K : Frg) : List FnV := [fnV K (x_a__law_other_errors K), fnV K (x_a__law_classes K), fnV K (x_a__law_sorts K), fnV K (x_a_law K)]
def vl2 : List FnV := [plainV "_law_other_errors" "_law_other_errors" s__law_other_errors, plainV "_law_classes" "_law_classes" s__law_classes, plainV "_law_sorts" "_law_sorts" s__law_sorts, plainV "law" "law" s_law]
def fvAll (K : Frg) : List FnV := fv0 K ++ fv1 K ++ fv2 K
def vlAll : List FnV := vl0 ++ vl1 ++ vl2
abbrev hR : PySem.W.OpenRow := PySem.W.OpenLaw.row PySem.Challenge.rw_onlylooks_k92_errors_and_limits
abbrev hq : Program := PySem.W.view hR.prog [53]
def hn0 : List Str := [("__name__" : Str), ("InvalidTable" : Str), ("InvalidSchema" : Str), ("InvalidRow" : Str), ("OtherSchema" : Str), ("InvalidRule" : Str), ("Misfit" : Str), ("Circle" : Str), ("InvalidFact" : Str), ("InvalidChange" : Str), ("InvalidAnswer" : Str), ("InvalidTemplate" : Str), ("InvalidNames" : Str), ("InvalidPair" : Str), ("InvalidLimit" : Str), ("Unreadable" : Str), ("NoLine" : Str), ("UnknownTable" : Str), ("UnknownColumn" : Str), ("OutOfRange" : Str), ("NoAnswer" : Str), ("NoCase" : Str), ("NoBranch" : Str), ("Nothing" : Str), ("TooMany" : Str)]
def hn1 : List Str := [("TooDear" : Str), ("Broken" : Str), ("Unfit" : Str), ("NeverFits" : Str), ("Refused" : Str), ("LookFailed" : Str), ("NoLook" : Str), ("MAX_WORD" : Str), ("MAX_TABLES" : Str), ("MAX_COLUMNS" : Str), ("MAX_STATEMENTS" : Str), ("MAX_LEAST" : Str), ("MAX_MOST" : Str), ("MAX_ENTRIES" : Str), ("MAX_WANTED" : Str), ("MAX_PAPER" : Str), ("MAX_ANSWERS" : Str), ("MAX_OPEN" : Str), ("MAX_NAMES" : Str), ("_law_pen" : Str), ("_law_draw" : Str), ("_law_pick" : Str), ("_law_any_value" : Str), ("_law_some_errors" : Str), ("_law_other_errors" : Str)]
def hn2 : List Str := [("_law_classes" : Str), ("_law_sorts" : Str)]
def hnames : List Str := hn0 ++ hn1 ++ hn2
abbrev hk : PySem.W.Hook := hookQ 6 ckAll fvAll vlAll
def hob (s : PySem.W.SharedT) : AlQ := obsQ 6 ckAll fvAll (HandSHeadRun.getT s)
theorem hob_eq (s : PySem.W.SharedT) : hob s = hk.obs s.abs := obsQ_eq (HandSHeadRun.getT_eq s)
end Q
namespace Q
open PySem L2 PySem.Spec PyProof.Rows
theorem hrun (w : World) : HandSHeadRun.RunEq hR hq hk hob 9000 hnames w := by
  intro os
  kernel_rfl
end Q
namespace Q
open PySem L2
/-! ### plain data -/
inductive D where
  | non | bl (b : Bool) | int (i : Int) | str (s : Str) | byt (b : Array UInt8) | ty (n : String)
  | lst (xs : List D) | tup (xs : List D) | dK (kvs : List (Key × D)) | dT (kvs : List (List Key × D))
  | ins (C : Addr) (fs : List (Str × D)) | exc (a d C : Addr) (fs : List (Str × D)) | cell (n : Nat) | cls (a : Addr) | scr (ns : List Int) | rows (n : Nat) | err (C : Addr) (fs : List (Str × D))
/-- which addresses bear what changes, and what is plain for ever -/
structure Wd where
  /-- the address of each thing; of a database also that of its dict of rows -/
  φ : List (Addr × Addr)
  owns : List (List Addr)
  F : Addr → Prop
  /-- dicts that are locked -/
  L : List (Addr × Obj)
def Wd.own (W : Wd) (a : Addr) : Prop := ∃ w ∈ W.owns, a ∈ w
mutual
inductive Rep (φ : List (Addr × Addr)) (F : Addr → Prop) (H : Hp) : V → D → Prop
  | non : Rep φ F H .non .non
  | bl (b : Bool) : Rep φ F H (.bl b) (.bl b)
  | int (i : Int) : Rep φ F H (.int i) (.int i)
  | str (x : Str) : Rep φ F H (.str x) (.str x)
  | byt (x : Array UInt8) : Rep φ F H (.byt x) (.byt x)
  | ty (n : String) : Rep φ F H (.ty n) (.ty n)
  | cls (a : Addr) : Rep φ F H (.ref a) (.cls a)
  | cell {n : Nat} {a r : Addr} : φ[n]? = some (a, r) → Rep φ F H (.ref a) (.cell n)
  | rows {n : Nat} {a r : Addr} : φ[n]? = some (a, r) → Rep φ F H (.ref r) (.rows n)
  | lst {a : Addr} {xs : List V} {ds : List D} : F a → H a = some (.lst xs) → RepL φ F H xs ds → Rep φ F H (.ref a) (.lst ds)
  | scr {a : Addr} {ns : List Int} : F a → Rd H a (.lst (ns.map V.int)) → Rep φ F H (.ref a) (.scr ns)
  | tup {a : Addr} {xs : List V} {ds : List D} : H a = some (.tup xs) → RepL φ F H xs ds → Rep φ F H (.ref a) (.tup ds)
  | dK {a : Addr} {xs : List (Key × V)} {ds : List (Key × D)} : F a → H a = some (.dK xs) → RepK φ F H xs ds → Rep φ F H (.ref a) (.dK ds)
  | dT {a : Addr} {xs : List (List Key × V)} {ds : List (List Key × D)} : F a → H a = some (.dT xs) → RepT φ F H xs ds → Rep φ F H (.ref a) (.dT ds)
  | ins {a C dx : Addr} {xs : List (Str × V)} {ds : List (Str × D)} : F a → H a = some (.ins C dx xs) → RepF φ F H xs ds → Rep φ F H (.ref a) (.ins C ds)
  /-- a caught error at a, its fields at d -/
  | exc {a d C : Addr} {xs : List (Str × V)} {ds : List (Str × D)} : F d → H d = some (.xd xs) → RepF φ F H xs ds → Rep φ F H (.ref a) (.exc a d C ds)
  /-- an error as a value, its fields at d -/
  | err {a d C : Addr} {xs : List (Str × V)} {ds : List (Str × D)} : F a → H a = some (exo a C (some d)) → F d → H d = some (exd d xs) → RepF φ F H xs ds → Rep φ F H (.ref a) (.err C ds)
  | err0 {a C : Addr} : F a → H a = some (exo a C none) → Rep φ F H (.ref a) (.err C [])
inductive RepL (φ : List (Addr × Addr)) (F : Addr → Prop) (H : Hp) : List V → List D → Prop
  | nil : RepL φ F H [] []
  | cons {v : V} {d : D} {vs : List V} {ds : List D} : Rep φ F H v d → RepL φ F H vs ds → RepL φ F H (v :: vs) (d :: ds)
inductive RepK (φ : List (Addr × Addr)) (F : Addr → Prop) (H : Hp) : List (Key × V) → List (Key × D) → Prop
  | nil : RepK φ F H [] []
  | cons {k : Key} {v : V} {d : D} {vs : List (Key × V)} {ds : List (Key × D)} : Rep φ F H v d → RepK φ F H vs ds → RepK φ F H ((k, v) :: vs) ((k, d) :: ds)
inductive RepT (φ : List (Addr × Addr)) (F : Addr → Prop) (H : Hp) : List (List Key × V) → List (List Key × D) → Prop
  | nil : RepT φ F H [] []
  | cons {k : List Key} {v : V} {d : D} {vs : List (List Key × V)} {ds : List (List Key × D)} : Rep φ F H v d → RepT φ F H vs ds → RepT φ F H ((k, v) :: vs) ((k, d) :: ds)
inductive RepF (φ : List (Addr × Addr)) (F : Addr → Prop) (H : Hp) : List (Str × V) → List (Str × D) → Prop
  | nil : RepF φ F H [] []
  | cons {k : Str} {v : V} {d : D} {vs : List (Str × V)} {ds : List (Str × D)} : Rep φ F H v d → RepF φ F H vs ds → RepF φ F H ((k, v) :: vs) ((k, d) :: ds)
end
/-- later: what was plain stays plain -/
structure Fut (φ : List (Addr × Addr)) (F : Addr → Prop) (H : Hp) (φ' : List (Addr × Addr)) (F' : Addr → Prop) (H' : Hp) : Prop where
  cells : ∀ (n : Nat) (a : Addr × Addr), φ[n]? = some a → φ'[n]? = some a
  sub : ∀ a, F a → F' a
  keep : ∀ a o, F a → H a = some o → H' a = some o
  tups : ∀ a xs, H a = some (.tup xs) → H' a = some (.tup xs)
theorem Fut.rd {φ F H φ' F' H'} (f : Fut φ F H φ' F' H') {a : Addr} {u : HO} (hF : F a) (h : Rd H a u) : Rd H' a u := by
  rcases h with h | ⟨o, h⟩
  · exact .inl (f.keep a _ hF h)
  · exact .inr ⟨o, f.keep a _ hF h⟩
mutual
theorem Rep.fut {φ F H φ' F' H'} (f : Fut φ F H φ' F' H') : ∀ {d : D} {v : V}, Rep φ F H v d → Rep φ' F' H' v d
  | .non, _, h => by cases h; exact .non
  | .bl b, _, h => by cases h; exact .bl b
  | .int b, _, h => by cases h; exact .int b
  | .str b, _, h => by cases h; exact .str b
  | .byt b, _, h => by cases h; exact .byt b
  | .ty b, _, h => by cases h; exact .ty b
  | .cls b, _, h => by cases h; exact .cls b
  | .cell n, _, h => by
    cases h with
    | cell e => exact .cell (f.cells _ _ e)
  | .rows n, _, h => by
    cases h with
    | rows e => exact .rows (f.cells _ _ e)
  | .lst ds, _, h => by
    cases h with
    | lst h1 h2 h3 => exact .lst (f.sub _ h1) (f.keep _ _ h1 h2) (RepL.fut f h3)
  | .scr ns, _, h => by
    cases h with
    | scr h1 h2 => exact .scr (f.sub _ h1) (f.rd h1 h2)
  | .tup ds, _, h => by
    cases h with
    | tup h2 h3 => exact .tup (f.tups _ _ h2) (RepL.fut f h3)
  | .dK ds, _, h => by
    cases h with
    | dK h1 h2 h3 => exact .dK (f.sub _ h1) (f.keep _ _ h1 h2) (RepK.fut f h3)
  | .dT ds, _, h => by
    cases h with
    | dT h1 h2 h3 => exact .dT (f.sub _ h1) (f.keep _ _ h1 h2) (RepT.fut f h3)
  | .ins C ds, _, h => by
    cases h with
    | ins h1 h2 h3 => exact .ins (f.sub _ h1) (f.keep _ _ h1 h2) (RepF.fut f h3)
  | .exc a d C ds, _, h => by
    cases h with
    | exc h1 h2 h3 => exact .exc (f.sub _ h1) (f.keep _ _ h1 h2) (RepF.fut f h3)
  | .err C ds, _, h => by
    cases h with
    | err h0 h1 h2 h3 h4 => exact .err (f.sub _ h0) (f.keep _ _ h0 h1) (f.sub _ h2) (f.keep _ _ h2 h3) (RepF.fut f h4)
    | err0 h0 h1 => exact .err0 (f.sub _ h0) (f.keep _ _ h0 h1)
theorem RepL.fut {φ F H φ' F' H'} (f : Fut φ F H φ' F' H') : ∀ {ds : List D} {vs : List V}, RepL φ F H vs ds → RepL φ' F' H' vs ds
  | [], _, h => by cases h; exact .nil
  | d :: ds, _, h => by
    cases h with
    | cons h1 h2 => exact .cons (Rep.fut f h1) (RepL.fut f h2)
theorem RepK.fut {φ F H φ' F' H'} (f : Fut φ F H φ' F' H') : ∀ {ds : List (Key × D)} {vs : List (Key × V)}, RepK φ F H vs ds → RepK φ' F' H' vs ds
  | [], _, h => by cases h; exact .nil
  | (k, d) :: ds, _, h => by
    cases h with
    | cons h1 h2 => exact .cons (Rep.fut f h1) (RepK.fut f h2)
theorem RepT.fut {φ F H φ' F' H'} (f : Fut φ F H φ' F' H') : ∀ {ds : List (List Key × D)} {vs : List (List Key × V)}, RepT φ F H vs ds → RepT φ' F' H' vs ds
  | [], _, h => by cases h; exact .nil
  | (k, d) :: ds, _, h => by
    cases h with
    | cons h1 h2 => exact .cons (Rep.fut f h1) (RepT.fut f h2)
theorem RepF.fut {φ F H φ' F' H'} (f : Fut φ F H φ' F' H') : ∀ {ds : List (Str × D)} {vs : List (Str × V)}, RepF φ F H vs ds → RepF φ' F' H' vs ds
  | [], _, h => by cases h; exact .nil
  | (k, d) :: ds, _, h => by
    cases h with
    | cons h1 h2 => exact .cons (Rep.fut f h1) (RepF.fut f h2)
end
end Q
namespace Q
open PySem L2
/-! ### things that change, kept in a store -/
abbrev penK (c : Addr) (t l : Int) : List (Key × V) := [(Sum.inr "cells", .ref c), (Sum.inr "turn", .int t), (Sum.inr "left", .int l)]
inductive Cell where
  /-- the source of draws: at most n of them were made -/
  | pen (n : Nat)
  /-- a database: where it lies, its class, its schema, the rows of its tables -/
  | db (x C : Addr) (sch : D) (rows : List (Str × List (List Key)))
  /-- the table of code objects at P, each of the name q -/
  | tbl (P : Addr) (q : Str)
  /-- a dict that may be emptied -/
  | dct (kvs : List (Key × D))
def TblAt (F : Addr → Prop) (H : Hp) (P : Addr) (q : Str) : Prop := ∃ ps : Array Value, H P = some (.tbl ps) ∧ TriplesOk ps.toList ∧ ∀ (pos : Pos) (cv : Value), codeAmong pos ps.toList = some cv → ∃ c, cv = .ref c ∧ F c ∧ H c = some (LamX.CodeO c q)
/-- the tables of a database: names, keys, their dicts -/
inductive TabsAt (H : Hp) : List (Key × V) → List (Str × List (List Key)) → List Addr → Prop
  | nil : TabsAt H [] [] []
  | cons {t : Addr} {n : Str} {ks : List (List Key)} {kvs : List (Key × V)} {rows : List (Str × List (List Key))} {ts : List Addr} : H t = some (.dT (ks.map fun k => (k, .bl true))) → TabsAt H kvs rows ts → TabsAt H ((Sum.inr n, .ref t) :: kvs) ((n, ks) :: rows) (t :: ts)
def CellRep (φ : List (Addr × Addr)) (F : Addr → Prop) (H : Hp) (a : Addr × Addr) (w : List Addr) : Cell → Prop
  | .pen n => w = [a.1] ∧ ∃ (c : Addr) (cells : List Int) (t l : Int), F c ∧ H a.1 = some (.dK (penK c t l)) ∧ H c = some (.lst (cells.map V.int)) ∧ cells.length ≤ 63 ∧ 0 ≤ t ∧ t ≤ (n : Int) ∧ 0 ≤ l
  | .db x C sch rows => ∃ (dx : Addr) (vs : V) (kvs : List (Key × V)) (ts : List Addr), w = a.1 :: a.2 :: ts ∧ w.Nodup ∧ H a.1 = some (.ins C dx [("own_schema", vs), ("own_rows", .ref a.2)]) ∧ Rep φ F H vs sch ∧ H a.2 = some (.dK kvs) ∧ TabsAt H kvs rows ts ∧ (rows.map (·.1)).Nodup ∧ x = a.1
  | .tbl P q => w = [P] ∧ a.1 = P ∧ TblAt F H P q
  | .dct kvs => w = [a.1] ∧ ∃ xs, H a.1 = some (.dK xs) ∧ RepK φ F H xs kvs
theorem TabsAt.fut {H H' : Hp} : ∀ {kvs : List (Key × V)} {rows : List (Str × List (List Key))} {ts : List Addr}, (∀ a ∈ ts, H' a = H a) → TabsAt H kvs rows ts → TabsAt H' kvs rows ts
  | _, _, _, _, .nil => .nil
  | _, _, _, e, .cons h t => .cons ((e _ List.mem_cons_self).trans h) (t.fut fun a ha => e a (List.mem_cons_of_mem _ ha))
theorem CellRep.fut {φ F H φ' F' H'} (f : Fut φ F H φ' F' H') {a : Addr × Addr} {w : List Addr} {c : Cell} (e : ∀ x ∈ w, H' x = H x) (h : CellRep φ F H a w c) : CellRep φ' F' H' a w c := by
  cases c with
  | pen n =>
    obtain ⟨rfl, c, cells, t, l, h1, h2, h3, h4⟩ := h
    exact ⟨rfl, c, cells, t, l, f.sub _ h1, (e _ List.mem_cons_self).trans h2, f.keep _ _ h1 h3, h4⟩
  | db x C sch rows =>
    obtain ⟨dx, vs, kvs, ts, rfl, h1, h2, h3, h4, h5, h6⟩ := h
    exact ⟨dx, vs, kvs, ts, rfl, h1, (e _ List.mem_cons_self).trans h2, h3.fut f, (e _ (List.mem_cons_of_mem _ List.mem_cons_self)).trans h4, h5.fut fun a ha => e _ (List.mem_cons_of_mem _ (List.mem_cons_of_mem _ ha)), h6⟩
  | tbl P q =>
    obtain ⟨rfl, ha, ps, h1, h2, h3⟩ := h
    refine ⟨rfl, ha, ps, (e _ List.mem_cons_self).trans h1, h2, fun pos cv hc => ?_⟩
    obtain ⟨c, e1, e2, e3⟩ := h3 pos cv hc
    exact ⟨c, e1, f.sub _ e2, f.keep _ _ e2 e3⟩
  | dct kvs =>
    obtain ⟨rfl, xs, h1, h2⟩ := h
    exact ⟨rfl, xs, (e _ List.mem_cons_self).trans h1, h2.fut f⟩
/-- the kinds of things that may be changed -/
def mutO : HO → Bool
  | .lst _ => true
  | .dK _ => true
  | .dT _ => true
  | .ins _ _ _ => true
  | .tbl _ => true
  | _ => false
theorem TabsAt.mem {H : Hp} : ∀ {kvs : List (Key × V)} {rows : List (Str × List (List Key))} {ts : List Addr}, TabsAt H kvs rows ts → ∀ t ∈ ts, ∃ o, H t = some o ∧ mutO o = true
  | _, _, _, .nil, t, h => absurd h List.not_mem_nil
  | _, _, _, .cons h r, t, ht => (List.mem_cons.mp ht).elim (fun e => by subst e; exact ⟨_, h, rfl⟩) fun z => r.mem t z
theorem CellRep.there {φ F H} {a : Addr × Addr} {w : List Addr} {c : Cell} (h : CellRep φ F H a w c) : ∀ x ∈ w, ∃ o, H x = some o ∧ mutO o = true := by
  cases c with
  | pen n =>
    obtain ⟨rfl, c, cells, t, l, h1, h2, h3, h4⟩ := h
    intro x hx
    rw [List.mem_singleton.mp hx]
    exact ⟨_, h2, rfl⟩
  | db x C sch rows =>
    obtain ⟨dx, vs, kvs, ts, rfl, h1, h2, h3, h4, h5, h6⟩ := h
    intro y hx
    rcases List.mem_cons.mp hx with e | hx
    · rw [e]; exact ⟨_, h2, rfl⟩
    · rcases List.mem_cons.mp hx with e | hx
      · rw [e]; exact ⟨_, h4, rfl⟩
      · exact h5.mem y hx
  | tbl P q =>
    obtain ⟨rfl, ha, ps, h1, _⟩ := h
    intro x hx
    rw [List.mem_singleton.mp hx]
    exact ⟨_, h1, rfl⟩
  | dct kvs =>
    obtain ⟨rfl, xs, h1, _⟩ := h
    intro x hx
    rw [List.mem_singleton.mp hx]
    exact ⟨_, h1, rfl⟩
/-! ### states -/
/-- a slot: not yet told, plain data, or a thing that the slot alone bears -/
inductive O where
  | un | d (x : D) | lst (xs : List D) | dK (kvs : List (Key × D)) | dT (kvs : List (List Key × D)) | ins (x : Addr) (C : Addr) (fs : List (Str × D))
def O.owned : O → Bool
  | .un => false
  | .d _ => false
  | _ => true
def O.toD : O → D
  | .un => .non
  | .d x => x
  | .lst xs => .lst xs
  | .dK kvs => .dK kvs
  | .dT kvs => .dT kvs
  | .ins _ C fs => .ins C fs
structure Ps where
  ρ : List O
  S : List Cell
  rw : Bool
  /-- the cells' tables are read as plain data -/
  vw : Bool
abbrev Rp (W : Wd) (H : Hp) (v : V) (d : D) : Prop := Rep W.φ W.F H v d
/-- what a slot's own thing is -/
def OwnAt (W : Wd) (H : Hp) (a : Addr) : O → Prop
  | .lst ds => ∃ xs, H a = some (.lst xs) ∧ RepL W.φ W.F H xs ds
  | .dK ds => ∃ xs, H a = some (.dK xs) ∧ RepK W.φ W.F H xs ds
  | .dT ds => ∃ xs, H a = some (.dT xs) ∧ RepT W.φ W.F H xs ds
  | .ins x C ds => x = a ∧ ∃ dx xs, H a = some (.ins C dx xs) ∧ RepF W.φ W.F H xs ds
  | _ => False
def SlotOk (W : Wd) (H : Hp) (o : O) (x : Option V) : Prop :=
  match o with
  | .un => True
  | .d y => ∃ v, x = some v ∧ Rp W H v y
  | o => ∃ a, x = some (.ref a) ∧ OwnAt W H a o
def slotOwns (ρ : List O) (σ : L2.St) (i : Nat) (a : Addr) : Prop := ∃ o, ρ[i]? = some o ∧ o.owned = true ∧ σ[i]? = some (some (.ref a))
theorem OwnAt.there {W : Wd} {H : Hp} {a : Addr} {o : O} (h : OwnAt W H a o) : ∃ u, H a = some u ∧ mutO u = true := by
  cases o with
  | un => exact h.elim
  | d x => exact h.elim
  | lst _ => obtain ⟨_, h, _⟩ := h; exact ⟨_, h, rfl⟩
  | dK _ => obtain ⟨_, h, _⟩ := h; exact ⟨_, h, rfl⟩
  | dT _ => obtain ⟨_, h, _⟩ := h; exact ⟨_, h, rfl⟩
  | ins _ _ _ => obtain ⟨_, _, _, h, _⟩ := h; exact ⟨_, h, rfl⟩
theorem OwnAt.fut {W W' : Wd} {H H' : Hp} (f : Fut W.φ W.F H W'.φ W'.F H') {a : Addr} {o : O} (e : H' a = H a) (h : OwnAt W H a o) : OwnAt W' H' a o := by
  cases o with
  | un => exact h
  | d x => exact h
  | lst _ => obtain ⟨_, h, g⟩ := h; exact ⟨_, e.trans h, g.fut f⟩
  | dK _ => obtain ⟨_, h, g⟩ := h; exact ⟨_, e.trans h, g.fut f⟩
  | dT _ => obtain ⟨_, h, g⟩ := h; exact ⟨_, e.trans h, g.fut f⟩
  | ins _ _ _ => obtain ⟨z, _, _, h, g⟩ := h; exact ⟨z, _, _, e.trans h, g.fut f⟩
theorem SlotOk.of_own {W : Wd} {H : Hp} {a : Addr} {o : O} (ho : o.owned = true) (h : OwnAt W H a o) : SlotOk W H o (some (.ref a)) := by
  cases o with
  | un => cases ho
  | d x => cases ho
  | lst _ => exact ⟨a, rfl, h⟩
  | dK _ => exact ⟨a, rfl, h⟩
  | dT _ => exact ⟨a, rfl, h⟩
  | ins _ _ _ => exact ⟨a, rfl, h⟩
theorem SlotOk.own {W : Wd} {H : Hp} {o : O} {x : Option V} (ho : o.owned = true) (h : SlotOk W H o x) : ∃ a, x = some (.ref a) ∧ OwnAt W H a o := by
  cases o with
  | un => cases ho
  | d x => cases ho
  | lst _ => exact h
  | dK _ => exact h
  | dT _ => exact h
  | ins _ _ _ => exact h
/-- from one state to a later one, while the slots' own things stay as they are; rw: the cells may change -/
structure Step (rw : Bool) (W : Wd) (H : Hp) (W' : Wd) (H' : Hp) : Prop where
  cells : ∀ (n : Nat) (a : Addr × Addr), W.φ[n]? = some a → W'.φ[n]? = some a
  sub : ∀ a, W.F a → W'.F a
  keep : ∀ a o, H a = some o → (rw = true → ¬ W.own a) → H' a = some o
  tups : ∀ a xs, H a = some (.tup xs) → H' a = some (.tup xs)
  dom : ∀ a, H a ≠ none → H' a ≠ none
  ownNew : ∀ a, W'.own a → W.own a ∨ (rw = true ∧ H a = none)
  locks : ∃ more, W'.L = more ++ W.L
  ownOld : ∀ a, W.own a → W'.own a ∨ rw = true
theorem Step.refl (rw : Bool) (W : Wd) (H : Hp) : Step rw W H W H := ⟨fun _ _ e => e, fun _ h => h, fun _ _ e _ => e, fun _ _ e => e, fun _ h => h, fun _ h => .inl h, ⟨[], rfl⟩, fun _ h => .inl h⟩
theorem Step.trans {rw : Bool} {W W1 W2 : Wd} {H H1 H2 : Hp} (a : Step rw W H W1 H1) (b : Step rw W1 H1 W2 H2) : Step rw W H W2 H2 where
  cells := fun n x e => b.cells n x (a.cells n x e)
  sub := fun x h => b.sub x (a.sub x h)
  keep := fun x o e n => b.keep x o (a.keep x o e n) fun hr ho => (a.ownNew x ho).elim (n hr) fun z => by rw [e] at z; cases z.2
  tups := fun x xs e => b.tups x xs (a.tups x xs e)
  dom := fun x h => b.dom x (a.dom x h)
  ownNew := fun x h => (b.ownNew x h).elim (a.ownNew x) fun z => .inr ⟨z.1, Classical.byContradiction fun y => a.dom x y z.2⟩
  locks := by
    obtain ⟨m1, e1⟩ := a.locks
    obtain ⟨m2, e2⟩ := b.locks
    exact ⟨m2 ++ m1, by rw [e2, e1, List.append_assoc]⟩
  ownOld := fun x h => (a.ownOld x h).elim (b.ownOld x) .inr
/-- where a body starts: the world, the heap; whether the cells may change; what is wanted of an error -/
structure C0 where
  W0 : Wd
  H0 : Hp
  rw : Bool
  E : Addr → List (Str × D) → Ps → Prop
  /-- new things that nobody bears yet -/
  R : Addr → Prop
def lockH (L : List (Addr × Obj)) (H : Hp) : Hp := fun a => match L.lookup a with
  | some o => (H a).map (HO.frz o)
  | none => H a
def dictO : HO → Bool
  | .dK _ => true
  | .dT _ => true
  | _ => false
/-- the store lies in the heap -/
structure Base (rw : Bool) (W : Wd) (S : List Cell) (H : Hp) : Prop where
  fdom : ∀ a, W.F a → ∃ o, H a = some o
  len : W.φ.length = S.length ∧ W.owns.length = S.length
  cell : ∀ (n : Nat) (a : Addr × Addr) (x : Cell) (w : List Addr), W.φ[n]? = some a → S[n]? = some x → W.owns[n]? = some w → CellRep W.φ W.F H a w x
  apart : ∀ (m n : Nat) (w w' : List Addr) (x : Addr), W.owns[m]? = some w → W.owns[n]? = some w' → x ∈ w → x ∈ w' → m = n
  ownF : rw = true → ∀ a, W.own a → ¬ W.F a
  lN : (W.L.map (·.1)).Nodup
  lF : ∀ a o, W.L.lookup a = some o → (W.F a ∨ rw = false ∧ W.own a) ∧ ∃ u, H a = some u ∧ dictO u = true
structure Pre (c : C0) (W : Wd) (st : Ps) (σ : L2.St) (H : Hp) : Prop where
  hrw : st.rw = c.rw
  step : Step c.rw c.W0 c.H0 W H
  new : ∀ a, W.F a → c.W0.F a ∨ c.H0 a = none
  base : Base c.rw W st.S H
  slen : st.ρ.length = σ.length
  slot : ∀ (i : Nat) (o : O), st.ρ[i]? = some o → SlotOk W H o (σ[i]?.join)
  sown : ∀ i a, slotOwns st.ρ σ i a → ¬ W.F a ∧ ¬ W.own a ∧ c.H0 a = none
  sapart : ∀ i j a, slotOwns st.ρ σ i a → slotOwns st.ρ σ j a → i = j
  rsv : ∀ a, c.R a → ¬ W.F a ∧ ¬ W.own a ∧ (∃ o, H a = some o) ∧ ∀ i, ¬ slotOwns st.ρ σ i a
  hvw : st.vw = true → c.rw = false ∧ ∀ a, W.own a → W.F a
  own0 : ∀ a, c.W0.own a → ∃ o, c.H0 a = some o ∧ mutO o = true
/-! ### locks -/
section
variable {L : List (Addr × Obj)} {H : Hp} {a p : Addr} {o u : HO}
theorem lock_rd (h : H a = some u) : Rd (lockH L H) a u := by
  cases e : L.lookup a with
  | none => exact .inl (by simp only [lockH, e]; exact h)
  | some x => exact .inr ⟨x, by simp only [lockH, e, h]; rfl⟩
theorem lock_none (h : lockH L H p = none) : H p = none := by
  unfold lockH at h
  cases e : L.lookup p with
  | none => rw [e] at h; exact h
  | some x =>
    rw [e] at h
    cases q : H p with
    | none => rfl
    | some y => rw [q] at h; cases h
theorem lock_at (h : L.lookup a = none) : lockH L H a = H a := by
  unfold lockH
  rw [h]
theorem lock_upd (h : L.lookup p = none) : upd (lockH L H) p o = lockH L (upd H p o) := by
  funext b
  unfold upd lockH
  by_cases e : b = p
  · subst e
    simp only [h]
  · simp only [if_neg e]
end
theorem Pre.lnone {c : C0} {W : Wd} {st : Ps} {σ : L2.St} {H : Hp} (P : Pre c W st σ H) {p : Addr} (h : H p = none) : W.L.lookup p = none := by
  cases e : W.L.lookup p with
  | none => rfl
  | some o =>
    obtain ⟨_, x, q, _⟩ := P.base.lF p o e
    rw [h] at q
    cases q
theorem Pre.lown {c : C0} {W : Wd} {st : Ps} {σ : L2.St} {H : Hp} (P : Pre c W st σ H) {p : Addr} (h : ¬ W.F p) (h2 : ¬ W.own p) : W.L.lookup p = none := by
  cases e : W.L.lookup p with
  | none => rfl
  | some o => exact ((P.base.lF p o e).1.elim h fun z => h2 z.2).elim
theorem Step.fut {rw : Bool} {W W' : Wd} {H H' : Hp} (s : Step rw W H W' H') (hF : rw = true → ∀ a, W.own a → ¬ W.F a) : Fut W.φ W.F H W'.φ W'.F H' :=
  ⟨s.cells, s.sub, fun a o hf e => s.keep a o e fun hr ho => hF hr a ho hf, s.tups⟩
/-! ### results of expressions -/
/-- plain data, or the thing that a slot bears -/
inductive R where
  | v (d : D) | ref (i : Nat)
def look (st : Ps) : R → Option D
  | .v d => some d
  | .ref i => match st.ρ[i]? with
    | some .un => none
    | some o => some o.toD
    | none => none
def RV (W : Wd) (σ : L2.St) (H : Hp) (v : V) : R → Prop
  | .v d => Rp W H v d
  | .ref i => σ[i]? = some (some v)
abbrev EK := Addr → List (Str × D) → Ps → Prop
abbrev Ex := EK → Ps → (R → Ps → Prop) → Prop
/-- the reading of an expression over plain states -/
def tX (c : C0) (f : Ex) : TE := fun σ H Q => ∃ W st H1 Q0, H = lockH W.L H1 ∧ Pre c W st σ H1 ∧ f c.E st Q0 ∧
  ∀ r st' v W' H2, Q0 r st' → Step c.rw W H1 W' H2 → Pre c W' st' σ H2 → RV W' σ H2 v r → Q v (lockH W'.L H2)
end Q
namespace Q
open PySem L2
/-! ### what is read: the top may be a slot's own thing -/
inductive Top (φ : List (Addr × Addr)) (F : Addr → Prop) (H : Hp) : V → D → Prop
  | non : Top φ F H .non .non
  | bl (b : Bool) : Top φ F H (.bl b) (.bl b)
  | int (i : Int) : Top φ F H (.int i) (.int i)
  | str (x : Str) : Top φ F H (.str x) (.str x)
  | byt (x : Array UInt8) : Top φ F H (.byt x) (.byt x)
  | ty (n : String) : Top φ F H (.ty n) (.ty n)
  | cls (a : Addr) : Top φ F H (.ref a) (.cls a)
  | cell {n : Nat} {a r : Addr} : φ[n]? = some (a, r) → Top φ F H (.ref a) (.cell n)
  | rows {n : Nat} {a r : Addr} : φ[n]? = some (a, r) → Top φ F H (.ref r) (.rows n)
  | lst {a : Addr} {xs : List V} {ds : List D} : H a = some (.lst xs) → RepL φ F H xs ds → Top φ F H (.ref a) (.lst ds)
  | scr {a : Addr} {ns : List Int} : Rd H a (.lst (ns.map V.int)) → Top φ F H (.ref a) (.scr ns)
  | tup {a : Addr} {xs : List V} {ds : List D} : H a = some (.tup xs) → RepL φ F H xs ds → Top φ F H (.ref a) (.tup ds)
  | dK {a : Addr} {xs : List (Key × V)} {ds : List (Key × D)} : H a = some (.dK xs) → RepK φ F H xs ds → Top φ F H (.ref a) (.dK ds)
  | dT {a : Addr} {xs : List (List Key × V)} {ds : List (List Key × D)} : H a = some (.dT xs) → RepT φ F H xs ds → Top φ F H (.ref a) (.dT ds)
  | ins {a C dx : Addr} {xs : List (Str × V)} {ds : List (Str × D)} : H a = some (.ins C dx xs) → RepF φ F H xs ds → Top φ F H (.ref a) (.ins C ds)
  | exc {a d C : Addr} {xs : List (Str × V)} {ds : List (Str × D)} : F d → H d = some (.xd xs) → RepF φ F H xs ds → Top φ F H (.ref a) (.exc a d C ds)
  | err {a d C : Addr} {xs : List (Str × V)} {ds : List (Str × D)} : H a = some (exo a C (some d)) → H d = some (exd d xs) → RepF φ F H xs ds → Top φ F H (.ref a) (.err C ds)
  | err0 {a C : Addr} : H a = some (exo a C none) → Top φ F H (.ref a) (.err C [])
theorem Rep.top {φ F H v d} (h : Rep φ F H v d) : Top φ F H v d := by
  cases h with
  | non => exact .non
  | bl b => exact .bl b
  | int b => exact .int b
  | str b => exact .str b
  | byt b => exact .byt b
  | ty b => exact .ty b
  | cls b => exact .cls b
  | cell e => exact .cell e
  | rows e => exact .rows e
  | lst h1 h2 h3 => exact .lst h2 h3
  | scr h1 h2 => exact .scr h2
  | tup h2 h3 => exact .tup h2 h3
  | dK h1 h2 h3 => exact .dK h2 h3
  | dT h1 h2 h3 => exact .dT h2 h3
  | ins h1 h2 h3 => exact .ins h2 h3
  | exc h1 h2 h3 => exact .exc h1 h2 h3
  | err h0 h1 h2 h3 h4 => exact .err h1 h3 h4
  | err0 h0 h1 => exact .err0 h1
theorem OwnAt.top {W : Wd} {H : Hp} {a : Addr} {o : O} (h : OwnAt W H a o) : Top W.φ W.F H (.ref a) o.toD := by
  cases o with
  | un => exact h.elim
  | d x => exact h.elim
  | lst _ => obtain ⟨_, h, g⟩ := h; exact .lst h g
  | dK _ => obtain ⟨_, h, g⟩ := h; exact .dK h g
  | dT _ => obtain ⟨_, h, g⟩ := h; exact .dT h g
  | ins _ _ _ => obtain ⟨_, _, _, h, g⟩ := h; exact .ins h g
theorem OwnAt.rep {W : Wd} {H : Hp} {a : Addr} {o : O} (hF : W.F a) (h : OwnAt W H a o) : Rp W H (.ref a) o.toD := by
  cases o with
  | un => exact h.elim
  | d x => exact h.elim
  | lst _ => obtain ⟨_, h, g⟩ := h; exact .lst hF h g
  | dK _ => obtain ⟨_, h, g⟩ := h; exact .dK hF h g
  | dT _ => obtain ⟨_, h, g⟩ := h; exact .dT hF h g
  | ins _ _ _ => obtain ⟨_, _, _, h, g⟩ := h; exact .ins hF h g
section
variable {c : C0} {W W' : Wd} {st st' : Ps} {σ : L2.St} {H H' : Hp}
theorem Pre.top (P : Pre c W st σ H) {v : V} {r : R} {d : D} (h : RV W σ H v r) (e : look st r = some d) : Top W.φ W.F H v d := by
  cases r with
  | v x =>
    cases e
    exact Rep.top h
  | ref i =>
    have h' : σ[i]? = some (some v) := h
    unfold look at e
    dsimp only at e
    cases q : st.ρ[i]? with
    | none => rw [q] at e; cases e
    | some o =>
      rw [q] at e
      have so := P.slot i o q
      rw [h'] at so
      cases o with
      | un => cases e
      | d x =>
        cases e
        obtain ⟨v', e1, e2⟩ := so
        cases e1
        exact Rep.top e2
      | lst _ => cases e; obtain ⟨a, e1, e2⟩ := so; cases e1; exact e2.top
      | dK _ => cases e; obtain ⟨a, e1, e2⟩ := so; cases e1; exact e2.top
      | dT _ => cases e; obtain ⟨a, e1, e2⟩ := so; cases e1; exact e2.top
      | ins _ _ _ => cases e; obtain ⟨a, e1, e2⟩ := so; cases e1; exact e2.top
theorem Pre.fut (P : Pre c W st σ H) (s : Step c.rw W H W' H') : Fut W.φ W.F H W'.φ W'.F H' := s.fut P.base.ownF
theorem RV.step (P : Pre c W st σ H) (s : Step c.rw W H W' H') {v : V} {r : R} (h : RV W σ H v r) : RV W' σ H' v r := by
  cases r with
  | v d => exact Rep.fut (P.fut s) h
  | ref i => exact h
/-! ### a new thing -/
def Wd.add (W : Wd) (p : Addr) : Wd := { W with F := fun a => W.F a ∨ a = p }
theorem upd_some {H : Hp} {p a : Addr} {o u : HO} (hp : H p = none) (h : H a = some u) : upd H p o a = some u := by
  rw [upd_ne (ne_of_none h hp)]
  exact h
theorem upd_dom {H : Hp} {p a : Addr} {o : HO} (h : H a ≠ none) : upd H p o a ≠ none := by
  unfold upd
  split
  · intro z; cases z
  · exact h
theorem step_new (rw : Bool) (W : Wd) {H : Hp} {p : Addr} {o : HO} (hp : H p = none) : Step rw W H W (upd H p o) :=
  ⟨fun _ _ e => e, fun _ h => h, fun _ _ e _ => upd_some hp e, fun _ _ e => upd_some hp e, fun _ h => upd_dom h, fun _ h => .inl h, ⟨[], rfl⟩, fun _ h => .inl h⟩
theorem step_add (rw : Bool) (W : Wd) (H : Hp) (p : Addr) : Step rw W H (W.add p) H :=
  ⟨fun _ _ e => e, fun _ h => .inl h, fun _ _ e _ => e, fun _ _ e => e, fun _ h => h, fun _ h => .inl h, ⟨[], rfl⟩, fun _ h => .inl h⟩
theorem Base.own_there {rw : Bool} {S : List Cell} (B : Base rw W S H) {a : Addr} (h : W.own a) : ∃ o, H a = some o ∧ mutO o = true := by
  obtain ⟨w, hw, ha⟩ := h
  obtain ⟨n, hn⟩ := List.getElem?_of_mem hw
  have hl := (List.getElem?_eq_some_iff.mp hn).1
  have h1 : n < W.φ.length := by have := B.len; omega
  have h2 : n < S.length := by have := B.len; omega
  exact (B.cell n _ _ w (List.getElem?_eq_getElem h1) (List.getElem?_eq_getElem h2) hn).there a ha
theorem Base.later {rw : Bool} {S : List Cell} (B : Base rw W S H) (s : Step false W H W H') : Base rw W S H' := by
  have f := s.fut (fun z => by cases z)
  refine ⟨fun a h => ?_, B.len, fun n a x w h1 h2 h3 => ?_, B.apart, B.ownF, B.lN, fun a o h => ?_⟩
  · obtain ⟨o, e⟩ := B.fdom a h
    exact ⟨o, s.keep a o e (fun z => by cases z)⟩
  · have r := B.cell n a x w h1 h2 h3
    refine r.fut f fun y hy => ?_
    obtain ⟨o, e, _⟩ := r.there y hy
    rw [e, s.keep y o e (fun z => by cases z)]
  · obtain ⟨k1, u, k2, k3⟩ := B.lF a o h
    exact ⟨k1, u, s.keep a u k2 (fun z => by cases z), k3⟩
theorem Base.to {r r' : Bool} {S : List Cell} (B : Base r W S H) (h : r' = true → r = true) : Base r' W S H :=
  ⟨B.fdom, B.len, B.cell, B.apart, fun z => B.ownF (h z), B.lN, fun a o e => ⟨(B.lF a o e).1.elim .inl fun z => .inr ⟨(by
    cases r' with
    | false => rfl
    | true => rw [h rfl] at z; cases z.1), z.2⟩, (B.lF a o e).2⟩⟩
theorem Base.back {r r' : Bool} {S S' : List Cell} (B : Base r W S H) (B' : Base r' W' S' H') (e : W'.L = W.L) (s : Step r W H W' H') (hO : r' = false → ∀ a, W'.own a → W.own a) (hn : ∀ a, W'.F a → W.F a ∨ H a = none) : Base r W' S' H' :=
  ⟨B'.fdom, B'.len, B'.cell, B'.apart, fun hr => (by
    cases r' with
    | true => exact B'.ownF rfl
    | false => exact fun a ho hf => (hn a hf).elim (B.ownF hr a (hO rfl a ho)) fun z => (B.own_there (hO rfl a ho)).elim fun o q => by rw [z] at q; cases q.1), B'.lN, fun a o h => ⟨(B.lF a o (by rw [← e]; exact h)).1.elim (fun z => .inl (s.sub a z)) fun z => (s.ownOld a z.2).elim (fun y => .inr ⟨z.1, y⟩) fun y => (by rw [z.1] at y; cases y), (B'.lF a o h).2⟩⟩
theorem Base.add {rw : Bool} {S : List Cell} (B : Base rw W S H) {p : Addr} (hp : ¬ W.own p) (ht : ∃ o, H p = some o) : Base rw (W.add p) S H := by
  refine ⟨fun a h => ?_, B.len, fun n a x w h1 h2 h3 => ?_, B.apart, fun hr a ho hf => ?_, B.lN, fun a o h => ⟨(B.lF a o h).1.elim (fun z => .inl (.inl z)) .inr, (B.lF a o h).2⟩⟩
  · rcases h with h | rfl
    · exact B.fdom a h
    · exact ht
  · exact (B.cell n a x w h1 h2 h3).fut ⟨fun _ _ e => e, fun _ h => .inl h, fun _ _ _ e => e, fun _ _ e => e⟩ fun _ _ => rfl
  · rcases hf with hf | rfl
    · exact B.ownF hr a ho hf
    · exact hp ho
theorem SlotOk.fut {o : O} {x : Option V} (f : Fut W.φ W.F H W'.φ W'.F H') (e : ∀ a, x = some (.ref a) → o.owned = true → H' a = H a) (h : SlotOk W H o x) : SlotOk W' H' o x := by
  cases o with
  | un => exact trivial
  | d y => obtain ⟨v, e1, e2⟩ := h; exact ⟨v, e1, e2.fut f⟩
  | lst _ => obtain ⟨a, e1, e2⟩ := h; exact ⟨a, e1, e2.fut f (e a e1 rfl)⟩
  | dK _ => obtain ⟨a, e1, e2⟩ := h; exact ⟨a, e1, e2.fut f (e a e1 rfl)⟩
  | dT _ => obtain ⟨a, e1, e2⟩ := h; exact ⟨a, e1, e2.fut f (e a e1 rfl)⟩
  | ins _ _ _ => obtain ⟨a, e1, e2⟩ := h; exact ⟨a, e1, e2.fut f (e a e1 rfl)⟩
theorem join_ref {x : Option (Option V)} {v : V} (h : x.join = some v) : x = some (some v) := by
  cases x with
  | none => cases h
  | some y => exact congrArg some h
theorem Pre.sthere (P : Pre c W st σ H) {i : Nat} {a : Addr} (h : slotOwns st.ρ σ i a) : ∃ o, H a = some o ∧ mutO o = true := by
  obtain ⟨o, h1, h2, h3⟩ := h
  have so := P.slot i o h1
  rw [h3] at so
  obtain ⟨b, e1, e2⟩ := SlotOk.own h2 so
  cases e1
  exact e2.there
theorem Pre.ownAt (P : Pre c W st σ H) {i : Nat} {a : Addr} {o : O} (h1 : st.ρ[i]? = some o) (h2 : o.owned = true) (h3 : σ[i]? = some (some (.ref a))) : OwnAt W H a o := by
  have so := P.slot i o h1
  rw [h3] at so
  obtain ⟨b, e1, e2⟩ := SlotOk.own h2 so
  cases e1
  exact e2
theorem Pre.vstep (P : Pre c W st σ H) (s : Step c.rw W H W' H') : st.vw = true → c.rw = false ∧ ∀ a, W'.own a → W'.F a := fun h =>
  ⟨(P.hvw h).1, fun a ho => (s.ownNew a ho).elim (fun z => s.sub a ((P.hvw h).2 a z)) fun z => by rw [(P.hvw h).1] at z; cases z.1⟩
/-- a call (or anything that leaves the slots' things alone) has been made -/
theorem Pre.call (P : Pre c W st σ H) {S' : List Cell} (s : Step c.rw W H W' H') (hn : ∀ a, W'.F a → W.F a ∨ H a = none) (B : Base c.rw W' S' H') : Pre c W' { st with S := S' } σ H' where
  hrw := P.hrw
  step := P.step.trans s
  new := fun a h => (hn a h).elim (P.new a) fun z => .inr (Classical.byContradiction fun y => P.step.dom a y z)
  base := B
  slen := P.slen
  slot := fun i o h => (P.slot i o h).fut (P.fut s) fun a e1 e2 => by
    have so : slotOwns st.ρ σ i a := ⟨o, h, e2, join_ref e1⟩
    obtain ⟨u, e, _⟩ := P.sthere so
    rw [e, s.keep a u e (fun _ => (P.sown i a so).2.1)]
  sown := fun i a h => by
    obtain ⟨h1, h2, h3⟩ := P.sown i a h
    obtain ⟨u, e, _⟩ := P.sthere h
    exact ⟨fun z => (hn a z).elim h1 fun y => (by rw [e] at y; cases y), fun z => (s.ownNew a z).elim h2 fun y => (by rw [e] at y; cases y.2), h3⟩
  sapart := P.sapart
  rsv := fun a h => by
    obtain ⟨h1, h2, ⟨u, e⟩, h4⟩ := P.rsv a h
    exact ⟨fun z => (hn a z).elim h1 fun y => (by rw [e] at y; cases y), fun z => (s.ownNew a z).elim h2 fun y => (by rw [e] at y; cases y.2), ⟨u, s.keep a u e fun _ => h2⟩, h4⟩
  hvw := P.vstep s
  own0 := P.own0
/-- a new plain thing -/
theorem Pre.alloc (P : Pre c W st σ H) {p : Addr} {o : HO} (hp : H p = none) : Step c.rw W H (W.add p) (upd H p o) ∧ Pre c (W.add p) st σ (upd H p o) := by
  have s1 : Step c.rw W H (W.add p) (upd H p o) := (step_new c.rw W hp).trans (step_add c.rw W _ p)
  have hno : ¬ W.own p := fun z => by
    obtain ⟨u, e, _⟩ := P.base.own_there z
    rw [hp] at e
    cases e
  refine ⟨s1, P.call (S' := st.S) s1 (fun a h => h.elim .inl fun e => .inr (by rw [e]; exact hp)) ?_⟩
  exact (P.base.later (step_new false W hp)).add hno ⟨o, upd_same⟩
/-- a new thing, borne by nobody yet -/
theorem Pre.fresh (P : Pre c W st σ H) {p : Addr} {o : HO} (hp : H p = none) : Step c.rw W H W (upd H p o) ∧ Pre c W st σ (upd H p o) ∧ ¬ W.F p ∧ ¬ W.own p ∧ c.H0 p = none ∧ (∀ i, ¬ slotOwns st.ρ σ i p) ∧ ¬ c.R p := by
  have s1 : Step c.rw W H W (upd H p o) := step_new c.rw W hp
  have hno : ¬ W.own p := fun z => by
    obtain ⟨u, e, _⟩ := P.base.own_there z
    rw [hp] at e
    cases e
  refine ⟨s1, P.call (S' := st.S) s1 (fun a h => .inl h) (P.base.later (step_new false W hp)), fun z => ?_, hno, Classical.byContradiction fun y => P.step.dom p y hp, fun i z => ?_, fun z => ?_⟩
  · obtain ⟨u, e⟩ := P.base.fdom p z
    rw [hp] at e
    cases e
  · obtain ⟨u, e, _⟩ := P.sthere z
    rw [hp] at e
    cases e
  · obtain ⟨_, _, ⟨u, e⟩, _⟩ := P.rsv p z
    rw [hp] at e
    cases e
/-- nobody bears p: it becomes plain -/
theorem Pre.freeze0 (P : Pre c W st σ H) {p : Addr} (ho : ¬ W.own p) (h0 : c.H0 p = none) (hs : ∀ i, ¬ slotOwns st.ρ σ i p) (hR : ¬ c.R p) (ht : ∃ o, H p = some o) : Step c.rw W H (W.add p) H ∧ Pre c (W.add p) st σ H := by
  have s1 := step_add c.rw W H p
  refine ⟨s1, P.hrw, P.step.trans s1, fun a h => h.elim (P.new a) fun e => .inr (by rw [e]; exact h0), P.base.add ho ht, P.slen, fun i o h => (P.slot i o h).fut (P.fut s1) fun _ _ _ => rfl, fun i a h => ?_, P.sapart, fun a h => ?_, P.vstep s1, P.own0⟩
  · obtain ⟨h1, h2, h3⟩ := P.sown i a h
    exact ⟨fun z => z.elim h1 fun e => hs i (by rw [← e]; exact h), h2, h3⟩
  · obtain ⟨h1, h2, h3, h4⟩ := P.rsv a h
    exact ⟨fun z => z.elim h1 fun e => hR (by rw [← e]; exact h), h2, h3, h4⟩
end
end Q
namespace Q
open PySem L2
section
variable {c : C0} {W W' : Wd} {st st' : Ps} {σ : L2.St} {H H' : Hp}
theorem owns_set {ρ : List O} {σ : L2.St} {i j : Nat} {o : O} {x : Option V} {a : Addr} (h : slotOwns (ρ.set i o) (σ.set i x) j a) : (j = i ∧ o.owned = true ∧ x = some (.ref a)) ∨ (j ≠ i ∧ slotOwns ρ σ j a) := by
  obtain ⟨u, h1, h2, h3⟩ := h
  by_cases e : j = i
  · subst e
    left
    rw [List.getElem?_set] at h1 h3
    rw [if_pos rfl] at h1 h3
    split at h1
    · split at h3
      · cases h1
        exact ⟨rfl, h2, Option.some.inj h3⟩
      · cases h3
    · cases h1
  · right
    rw [List.getElem?_set_ne (Ne.symm e)] at h1 h3
    exact ⟨e, u, h1, h2, h3⟩
theorem owns_setO {ρ : List O} {σ : L2.St} {i j : Nat} {o : O} {a : Addr} (h : slotOwns (ρ.set i o) σ j a) : (j = i ∧ o.owned = true ∧ σ[i]? = some (some (.ref a))) ∨ (j ≠ i ∧ slotOwns ρ σ j a) := by
  obtain ⟨u, h1, h2, h3⟩ := h
  by_cases e : j = i
  · subst e
    left
    rw [List.getElem?_set] at h1
    rw [if_pos rfl] at h1
    split at h1
    · cases h1
      exact ⟨rfl, h2, h3⟩
    · cases h1
  · right
    rw [List.getElem?_set_ne (Ne.symm e)] at h1
    exact ⟨e, u, h1, h2, h3⟩
/-- a slot is given plain data -/
theorem Pre.set (P : Pre c W st σ H) (i : Nat) {v : V} {d : D} (h : Rp W H v d) : Pre c W { st with ρ := st.ρ.set i (.d d) } (σ.set i (some v)) H where
  hrw := P.hrw
  step := P.step
  new := P.new
  base := P.base
  slen := by simp only [List.length_set]; exact P.slen
  slot := fun j o e => by
    by_cases q : j = i
    · subst q
      rw [List.getElem?_set, if_pos rfl] at e ⊢
      have hl := P.slen
      split at e
      · cases e
        rw [if_pos (by omega)]
        exact ⟨v, rfl, h⟩
      · cases e
    · rw [List.getElem?_set_ne (Ne.symm q)] at e ⊢
      exact P.slot j o e
  sown := fun j a z => by
    rcases owns_set z with ⟨_, z, _⟩ | ⟨_, z⟩
    · cases z
    · exact P.sown j a z
  sapart := fun j k a z y => by
    rcases owns_set z with ⟨_, z, _⟩ | ⟨_, z⟩
    · cases z
    · rcases owns_set y with ⟨_, y, _⟩ | ⟨_, y⟩
      · cases y
      · exact P.sapart j k a z y
  rsv := fun a h => by
    obtain ⟨h1, h2, h3, h4⟩ := P.rsv a h
    refine ⟨h1, h2, h3, fun j z => ?_⟩
    rcases owns_set z with ⟨_, z, _⟩ | ⟨_, z⟩
    · cases z
    · exact h4 j z
  hvw := P.hvw
  own0 := P.own0
/-- a slot is given a thing that nobody bears -/
theorem Pre.setO (P : Pre c W st σ H) (i : Nat) {p : Addr} {o : O} (h : OwnAt W H p o) (hF : ¬ W.F p) (ho : ¬ W.own p) (h0 : c.H0 p = none) (hs : ∀ i, ¬ slotOwns st.ρ σ i p) (hR : ¬ c.R p) : Pre c W { st with ρ := st.ρ.set i o } (σ.set i (some (.ref p))) H where
  hrw := P.hrw
  step := P.step
  new := P.new
  base := P.base
  slen := by simp only [List.length_set]; exact P.slen
  slot := fun j u e => by
    by_cases q : j = i
    · subst q
      rw [List.getElem?_set, if_pos rfl] at e ⊢
      have hl := P.slen
      split at e
      · cases e
        rw [if_pos (by omega)]
        cases o with
        | un => exact trivial
        | d x => exact h.elim
        | lst _ => exact ⟨p, rfl, h⟩
        | dK _ => exact ⟨p, rfl, h⟩
        | dT _ => exact ⟨p, rfl, h⟩
        | ins _ _ _ => exact ⟨p, rfl, h⟩
      · cases e
    · rw [List.getElem?_set_ne (Ne.symm q)] at e ⊢
      exact P.slot j u e
  sown := fun j a z => by
    rcases owns_set z with ⟨_, _, z⟩ | ⟨_, z⟩
    · cases z
      exact ⟨hF, ho, h0⟩
    · exact P.sown j a z
  sapart := fun j k a z y => by
    rcases owns_set z with ⟨e1, _, z⟩ | ⟨_, z⟩
    · rcases owns_set y with ⟨e2, _, y⟩ | ⟨_, y⟩
      · rw [e1, e2]
      · cases z
        exact absurd y (hs k)
    · rcases owns_set y with ⟨e2, _, y⟩ | ⟨_, y⟩
      · cases y
        exact absurd z (hs j)
      · exact P.sapart j k a z y
  rsv := fun a h => by
    obtain ⟨h1, h2, h3, h4⟩ := P.rsv a h
    refine ⟨h1, h2, h3, fun j z => ?_⟩
    rcases owns_set z with ⟨_, _, z⟩ | ⟨_, z⟩
    · cases z
      exact hR h
    · exact h4 j z
  hvw := P.hvw
  own0 := P.own0
/-- a slot's thing becomes plain -/
theorem Pre.freeze (P : Pre c W st σ H) {i : Nat} {a : Addr} {o : O} (h1 : st.ρ[i]? = some o) (h2 : o.owned = true) (h3 : σ[i]? = some (some (.ref a))) :
    Step c.rw W H (W.add a) H ∧ Pre c (W.add a) { st with ρ := st.ρ.set i (.d o.toD) } σ H ∧ Rp (W.add a) H (.ref a) o.toD := by
  have so : slotOwns st.ρ σ i a := ⟨o, h1, h2, h3⟩
  obtain ⟨k1, k2, k3⟩ := P.sown i a so
  obtain ⟨u, hu, _⟩ := P.sthere so
  have s1 := step_add c.rw W H a
  have r : Rp (W.add a) H (.ref a) o.toD := OwnAt.rep (.inr rfl) ((P.ownAt h1 h2 h3).fut (P.fut s1) rfl)
  refine ⟨s1, ⟨P.hrw, P.step.trans s1, fun b h => h.elim (P.new b) fun e => .inr (by rw [e]; exact k3), P.base.add k2 ⟨u, hu⟩, by simp only [List.length_set]; exact P.slen, fun j x h => ?_, fun j b h => ?_, fun j k b z y => ?_, fun b h => ?_, P.vstep s1, P.own0⟩, r⟩
  · by_cases q : j = i
    · subst q
      rw [List.getElem?_set, if_pos rfl] at h
      split at h
      · cases h
        rw [h3]
        exact ⟨_, rfl, r⟩
      · cases h
    · rw [List.getElem?_set_ne (Ne.symm q)] at h
      exact (P.slot j x h).fut (P.fut s1) fun _ _ _ => rfl
  · rcases owns_setO h with ⟨_, z, _⟩ | ⟨ne, z⟩
    · cases z
    · obtain ⟨q1, q2, q3⟩ := P.sown j b z
      exact ⟨fun y => y.elim q1 fun e => ne (P.sapart j i a (by rw [← e]; exact z) so), q2, q3⟩
  · rcases owns_setO z with ⟨_, z, _⟩ | ⟨_, z⟩
    · cases z
    · rcases owns_setO y with ⟨_, y, _⟩ | ⟨_, y⟩
      · cases y
      · exact P.sapart j k b z y
  · obtain ⟨q1, q2, q3, q4⟩ := P.rsv b h
    refine ⟨fun z => z.elim q1 fun e => q4 i (by rw [e]; exact so), q2, q3, fun j z => ?_⟩
    rcases owns_setO z with ⟨_, z, _⟩ | ⟨_, z⟩
    · cases z
    · exact q4 j z
theorem fut_mut (W : Wd) {H : Hp} {a : Addr} {u u' : HO} (hF : ¬ W.F a) (hu : H a = some u) (hm : mutO u = true) : Fut W.φ W.F H W.φ W.F (upd H a u') :=
  ⟨fun _ _ e => e, fun _ h => h, fun b o hb e => by rw [upd_ne (fun z => hF (by rw [← z]; exact hb))]; exact e, fun b xs e => by
    rw [upd_ne (fun z => by subst z; rw [hu] at e; cases e; cases hm)]
    exact e⟩
/-- a slot's thing is changed -/
theorem Pre.mutate (P : Pre c W st σ H) {i : Nat} {a : Addr} {o o' : O} {u' : HO} (h1 : st.ρ[i]? = some o) (h2 : o.owned = true) (h3 : σ[i]? = some (some (.ref a))) (h2' : o'.owned = true)
    (h : Fut W.φ W.F H W.φ W.F (upd H a u') → OwnAt W (upd H a u') a o') : Pre c W { st with ρ := st.ρ.set i o' } σ (upd H a u') := by
  have so : slotOwns st.ρ σ i a := ⟨o, h1, h2, h3⟩
  obtain ⟨k1, k2, k3⟩ := P.sown i a so
  obtain ⟨u, hu, hm⟩ := P.sthere so
  have f := fut_mut W (u' := u') k1 hu hm
  refine ⟨P.hrw, ⟨P.step.cells, P.step.sub, fun b ob e n => ?_, fun b xs e => ?_, fun b e => upd_dom (P.step.dom b e), P.step.ownNew, P.step.locks, P.step.ownOld⟩, P.new, ⟨fun b hb => ?_, P.base.len, fun n b x w q1 q2 q3 => ?_, P.base.apart, P.base.ownF, P.base.lN, fun b ob e => ?_⟩, by simp only [List.length_set]; exact P.slen, fun j x e => ?_, fun j b e => ?_, fun j k b z y => ?_, fun b e => ?_, P.hvw, P.own0⟩
  · rw [upd_ne (fun z => by subst z; rw [k3] at e; cases e)]
    exact P.step.keep b ob e n
  · rw [upd_ne (fun z => by subst z; rw [k3] at e; cases e)]
    exact P.step.tups b xs e
  · obtain ⟨w, q⟩ := P.base.fdom b hb
    exact ⟨w, f.keep b w hb q⟩
  · have r := P.base.cell n b x w q1 q2 q3
    refine r.fut f fun y hy => ?_
    rw [upd_ne]
    intro z
    subst z
    exact k2 ⟨w, List.mem_of_getElem? q3, hy⟩
  · obtain ⟨q1, w, q2, q3⟩ := P.base.lF b ob e
    refine ⟨q1, w, ?_, q3⟩
    rw [upd_ne (fun z => by subst z; exact q1.elim k1 fun y => k2 y.2)]
    exact q2
  · by_cases q : j = i
    · subst q
      rw [List.getElem?_set, if_pos rfl] at e
      split at e
      · cases e
        rw [h3]
        exact SlotOk.of_own h2' (h f)
      · cases e
    · rw [List.getElem?_set_ne (Ne.symm q)] at e
      refine (P.slot j x e).fut f fun b e1 e2 => ?_
      rw [upd_ne]
      intro z
      subst z
      exact q (P.sapart j i b ⟨x, e, e2, join_ref e1⟩ so)
  · rcases owns_setO e with ⟨_, _, z⟩ | ⟨_, z⟩
    · rw [h3] at z
      cases z
      exact ⟨k1, k2, k3⟩
    · exact P.sown j b z
  · rcases owns_setO z with ⟨e1, _, z⟩ | ⟨n1, z⟩
    · rcases owns_setO y with ⟨e2, _, y⟩ | ⟨_, y⟩
      · rw [e1, e2]
      · rw [h3] at z
        cases z
        rw [e1]
        exact P.sapart i k a so y
    · rcases owns_setO y with ⟨e2, _, y⟩ | ⟨_, y⟩
      · rw [h3] at y
        cases y
        rw [e2]
        exact P.sapart j i a z so
      · exact P.sapart j k b z y
  · obtain ⟨q1, q2, ⟨w, q3⟩, q4⟩ := P.rsv b e
    refine ⟨q1, q2, ⟨w, ?_⟩, fun j z => ?_⟩
    · rw [upd_ne (fun z => q4 i (by rw [z]; exact so))]
      exact q3
    · rcases owns_setO z with ⟨_, _, z⟩ | ⟨_, z⟩
      · rw [h3] at z
        cases z
        exact q4 i so
      · exact q4 j z
end
/-! ### judgements over plain states -/
def ExcAt (W : Wd) (H : Hp) (od : Option Addr) (fs : List (Str × D)) : Prop := match od with
  | none => fs = []
  | some d => ∃ xs, W.F d ∧ H d = some (.xd xs) ∧ RepF W.φ W.F H xs fs
/-- the wish about errors -/
def wish (c : C0) : WX := fun cls od σ H => ∃ W st H1 C fs, H = lockH W.L H1 ∧ Pre c W st σ H1 ∧ cls = .ref C ∧ ExcAt W H1 od fs ∧ c.E C fs st
abbrev Lk (X : Cx) (c : C0) : Prop := Takes X (wish c)
/-- an expression -/
def PX (X : Cx) (e : Expr) (f : Ex) : Prop := ∀ c, Lk X c → PE X e (tX c f)
theorem peOf {X : Cx} {e : Expr} {t t' : TE} (h : PE X e t) (m : ∀ σ H Q, t' σ H Q → t σ H Q) : PE X e t' := ⟨fun pins s σ H Q I q => h.run pins s σ H Q I (m σ H Q q)⟩
theorem ptOf {X : Cx} {e : Expr} {t t' : TT} (h : PT X e t) (m : ∀ σ H Q, t' σ H Q → t σ H Q) : PT X e t' := ⟨fun pins s σ H Q I q => h.run pins s σ H Q I (m σ H Q q)⟩
theorem paOf {X : Cx} {e : List Expr} {t t' : TA} (h : PA X e t) (m : ∀ σ H Q, t' σ H Q → t σ H Q) : PA X e t' := ⟨fun pos pins s σ H Q I q => h.run pos pins s σ H Q I (m σ H Q q)⟩
theorem psOf {X : Cx} {e : Stmt} {t t' : TS} (h : PS X e t) (m : ∀ D σ H, t' D σ H → t D σ H) : PS X e t' := ⟨fun pins s σ H D I q => h.run pins s σ H D I (m D σ H q)⟩
theorem pssOf {X : Cx} {e : List Stmt} {t t' : TS} (h : PSs X e t) (m : ∀ D σ H, t' D σ H → t D σ H) : PSs X e t' := ⟨fun pins s σ H D I q => h.run pins s σ H D I (m D σ H q)⟩
/-- a test -/
abbrev Tx := EK → Ps → (Bool → Ps → Prop) → Prop
def tXT (c : C0) (f : Tx) : TT := fun σ H Q => ∃ W st H1 Q0, H = lockH W.L H1 ∧ Pre c W st σ H1 ∧ f c.E st Q0 ∧
  ∀ b st' W' H2, Q0 b st' → Step c.rw W H1 W' H2 → Pre c W' st' σ H2 → Q b (lockH W'.L H2)
def PXT (X : Cx) (e : Expr) (f : Tx) : Prop := ∀ c, Lk X c → PT X e (tXT c f)
/-- arguments -/
abbrev Ax := EK → Ps → (List R → Ps → Prop) → Prop
inductive RVs (W : Wd) (σ : L2.St) (H : Hp) : List V → List R → Prop
  | nil : RVs W σ H [] []
  | cons {v : V} {r : R} {vs : List V} {rs : List R} : RV W σ H v r → RVs W σ H vs rs → RVs W σ H (v :: vs) (r :: rs)
def tXA (c : C0) (f : Ax) : TA := fun σ H Q => ∃ W st H1 Q0, H = lockH W.L H1 ∧ Pre c W st σ H1 ∧ f c.E st Q0 ∧
  ∀ rs st' vs W' H2, Q0 rs st' → Step c.rw W H1 W' H2 → Pre c W' st' σ H2 → RVs W' σ H2 vs rs → Q vs (lockH W'.L H2)
def PXA (X : Cx) (es : List Expr) (f : Ax) : Prop := ∀ c, Lk X c → PA X es (tXA c f)
theorem RVs.step {c : C0} {W W' : Wd} {st : Ps} {σ : L2.St} {H H' : Hp} (P : Pre c W st σ H) (s : Step c.rw W H W' H') : ∀ {vs : List V} {rs : List R}, RVs W σ H vs rs → RVs W' σ H' vs rs
  | _, _, .nil => .nil
  | _, _, .cons h t => .cons (h.step P s) (t.step P s)
/-- a new thing, or plain data: what a slot may be given -/
def OV (c : C0) (W : Wd) (st : Ps) (σ : L2.St) (H : Hp) (v : V) (o : O) : Prop :=
  match o with
  | .un => False
  | .d x => Rp W H v x
  | o => ∃ a, v = .ref a ∧ OwnAt W H a o ∧ ¬ W.F a ∧ ¬ W.own a ∧ c.H0 a = none ∧ (∀ i, ¬ slotOwns st.ρ σ i a) ∧ ¬ c.R a
abbrev Ox := EK → Ps → (O → Ps → Prop) → Prop
def tO (c : C0) (f : Ox) : TE := fun σ H Q => ∃ W st H1 Q0, H = lockH W.L H1 ∧ Pre c W st σ H1 ∧ f c.E st Q0 ∧
  ∀ o st' v W' H2, Q0 o st' → Step c.rw W H1 W' H2 → Pre c W' st' σ H2 → OV c W' st' σ H2 v o → Q v (lockH W'.L H2)
def PO (X : Cx) (e : Expr) (f : Ox) : Prop := ∀ c, Lk X c → PE X e (tO c f)
/-- blocks and statements -/
structure En where
  nx : Ps → Prop
  rt : O → Ps → Prop
  bk : Ps → Prop
  ct : Ps → Prop
abbrev Sx := EK → En → Ps → Prop
/-- later, by statements: what is plain stays so -/
structure Aft (W : Wd) (H : Hp) (W' : Wd) (H' : Hp) : Prop where
  fut : Fut W.φ W.F H W'.φ W'.F H'
  locks : ∃ more, W'.L = more ++ W.L
theorem Fut.refl (φ F H) : Fut φ F H φ F H := ⟨fun _ _ e => e, fun _ h => h, fun _ _ _ e => e, fun _ _ e => e⟩
theorem Fut.trans {φ F H φ' F' H' φ2 F2 H2} (a : Fut φ F H φ' F' H') (b : Fut φ' F' H' φ2 F2 H2) : Fut φ F H φ2 F2 H2 :=
  ⟨fun n x e => b.cells n x (a.cells n x e), fun x h => b.sub x (a.sub x h), fun x o h e => b.keep x o (a.sub x h) (a.keep x o h e), fun x xs e => b.tups x xs (a.tups x xs e)⟩
theorem Aft.refl (W : Wd) (H : Hp) : Aft W H W H := ⟨.refl _ _ _, [], rfl⟩
theorem Aft.trans {W W1 W2 : Wd} {H H1 H2 : Hp} (a : Aft W H W1 H1) (b : Aft W1 H1 W2 H2) : Aft W H W2 H2 := by
  obtain ⟨m1, e1⟩ := a.locks
  obtain ⟨m2, e2⟩ := b.locks
  exact ⟨a.fut.trans b.fut, m2 ++ m1, by rw [e2, e1, List.append_assoc]⟩
theorem Pre.aft {c : C0} {W W' : Wd} {st : Ps} {σ : L2.St} {H H' : Hp} (P : Pre c W st σ H) (s : Step c.rw W H W' H') : Aft W H W' H' := ⟨P.fut s, s.locks⟩
def enOk (c : C0) (W0 : Wd) (H0 : Hp) (D : Ends) (K : En) : Prop :=
  (∀ st W σ H, K.nx st → Pre c W st σ H → Aft W0 H0 W H → D.nx σ (lockH W.L H)) ∧ (∀ o st W σ H v, K.rt o st → Pre c W st σ H → Aft W0 H0 W H → OV c W st σ H v o → D.rt v (lockH W.L H)) ∧
  (∀ st W σ H, K.bk st → Pre c W st σ H → Aft W0 H0 W H → D.bk σ (lockH W.L H)) ∧ (∀ st W σ H, K.ct st → Pre c W st σ H → Aft W0 H0 W H → D.ct σ (lockH W.L H))
theorem enOk.aft {c : C0} {W W' : Wd} {H H' : Hp} {D : Ends} {K : En} (e : enOk c W H D K) (a : Aft W H W' H') : enOk c W' H' D K :=
  ⟨fun st W2 σ H2 q P b => e.1 st W2 σ H2 q P (a.trans b), fun o st W2 σ H2 v q P b => e.2.1 o st W2 σ H2 v q P (a.trans b), fun st W2 σ H2 q P b => e.2.2.1 st W2 σ H2 q P (a.trans b), fun st W2 σ H2 q P b => e.2.2.2 st W2 σ H2 q P (a.trans b)⟩
def tXS (c : C0) (f : Sx) : TS := fun D σ H => ∃ W st H1 K, H = lockH W.L H1 ∧ Pre c W st σ H1 ∧ enOk c W H1 D K ∧ f c.E K st
def PXS (X : Cx) (s : Stmt) (f : Sx) : Prop := ∀ c, Lk X c → PS X s (tXS c f)
def PXB (X : Cx) (s : List Stmt) (f : Sx) : Prop := ∀ c, Lk X c → PSs X s (tXS c f)
end Q
namespace Q
open PySem L2
def opt {α : Type} (o : Option α) (Q : α → Prop) : Prop := match o with
  | some x => Q x
  | none => False
theorem opt_ex {α : Type} {o : Option α} {Q : α → Prop} (h : opt o Q) : ∃ x, o = some x ∧ Q x := by
  cases o with
  | none => exact h.elim
  | some x => exact ⟨x, rfl, h⟩
section
variable {X : Cx} {c : C0} {W : Wd} {st : Ps} {σ : L2.St} {H : Hp}
/-! ### what stands in the locked heap -/
theorem Pre.nol (P : Pre c W st σ H) {a : Addr} {u : HO} (h : H a = some u) (hd : dictO u = false) : lockH W.L H a = some u := by
  rw [lock_at]
  · exact h
  · cases e : W.L.lookup a with
    | none => rfl
    | some o =>
      obtain ⟨_, x, e1, e2⟩ := P.base.lF a o e
      rw [h] at e1
      cases e1
      rw [hd] at e2
      cases e2
theorem Pre.lnone' (P : Pre c W st σ H) {p : Addr} (h : lockH W.L H p = none) : H p = none ∧ W.L.lookup p = none := ⟨lock_none h, P.lnone (lock_none h)⟩
/-- what a step that makes o comes to -/
def Res (c : C0) (W : Wd) (st : Ps) (σ : L2.St) (H : Hp) (o : O) (Q : VK) : Prop := ∀ v W' H2, Step c.rw W H W' H2 → Pre c W' st σ H2 → OV c W' st σ H2 v o → Q v (lockH W'.L H2)
theorem Res.d (P : Pre c W st σ H) {x : D} {Q : VK} {v : V} (h : Res c W st σ H (.d x) Q) (r : Rp W H v x) : Q v (lockH W.L H) := h v W H (.refl _ _ _) P r
theorem Res.new (P : Pre c W st σ H) {o : O} {Q : VK} {u : HO} (h : Res c W st σ H o Q) (ho : o.owned = true) (hq : ∀ p, H p = none → OwnAt W (upd H p u) p o) : ∀ p, lockH W.L H p = none → Q (.ref p) (upd (lockH W.L H) p u) := fun p hp => by
  obtain ⟨h1, h2⟩ := P.lnone' hp
  obtain ⟨s, P', f1, f2, f3, f4⟩ := P.fresh (o := u) h1
  rw [lock_upd h2]
  refine h _ _ _ s P' ?_
  have q := hq p h1
  cases o with
  | un => cases ho
  | d x => cases ho
  | lst _ => exact ⟨p, rfl, q, f1, f2, f3, f4⟩
  | dK _ => exact ⟨p, rfl, q, f1, f2, f3, f4⟩
  | dT _ => exact ⟨p, rfl, q, f1, f2, f3, f4⟩
  | ins _ _ _ => exact ⟨p, rfl, q, f1, f2, f3, f4⟩
theorem Res.newT (P : Pre c W st σ H) {ds : List D} {xs : List V} {Q : VK} (h : Res c W st σ H (.d (.tup ds)) Q) (r : RepL W.φ W.F H xs ds) : ∀ p, lockH W.L H p = none → Q (.ref p) (upd (lockH W.L H) p (.tup xs)) := fun p hp => by
  obtain ⟨h1, h2⟩ := P.lnone' hp
  obtain ⟨s, P', _⟩ := P.fresh (o := .tup xs) h1
  rw [lock_upd h2]
  exact h _ _ _ s P' (.tup upd_same (r.fut (P.fut s)))
theorem fut_new (W : Wd) {H : Hp} {p : Addr} {o : HO} (hp : H p = none) : Fut W.φ W.F H W.φ W.F (upd H p o) := ⟨fun _ _ e => e, fun _ h => h, fun _ _ _ e => upd_some hp e, fun _ _ e => upd_some hp e⟩
theorem OV.step {o : O} {v : V} {st' : Ps} (h : OV c W st σ H v o) (e : st'.ρ = st.ρ) : OV c W st' σ H v o := by
  cases o with
  | un => exact h
  | d x => exact h
  | lst _ => obtain ⟨a, h1, h2, h3, h4, h5, h6⟩ := h; exact ⟨a, h1, h2, h3, h4, h5, by rw [e]; exact h6.1, h6.2⟩
  | dK _ => obtain ⟨a, h1, h2, h3, h4, h5, h6⟩ := h; exact ⟨a, h1, h2, h3, h4, h5, by rw [e]; exact h6.1, h6.2⟩
  | dT _ => obtain ⟨a, h1, h2, h3, h4, h5, h6⟩ := h; exact ⟨a, h1, h2, h3, h4, h5, by rw [e]; exact h6.1, h6.2⟩
  | ins _ _ _ => obtain ⟨a, h1, h2, h3, h4, h5, h6⟩ := h; exact ⟨a, h1, h2, h3, h4, h5, by rw [e]; exact h6.1, h6.2⟩
/-- whatever came: as plain data -/
theorem OV.plain (P : Pre c W st σ H) {o : O} {v : V} (h : OV c W st σ H v o) : ∃ W', Step c.rw W H W' H ∧ Pre c W' st σ H ∧ Rp W' H v o.toD ∧ W'.L = W.L := by
  have go : ∀ {o : O} {a : Addr}, OwnAt W H a o → ¬ W.own a → c.H0 a = none → ((∀ i, ¬ slotOwns st.ρ σ i a) ∧ ¬ c.R a) → ∃ W', Step c.rw W H W' H ∧ Pre c W' st σ H ∧ Rp W' H (.ref a) o.toD ∧ W'.L = W.L := fun {o a} q h4 h5 h6 => by
    obtain ⟨u, hu, _⟩ := q.there
    obtain ⟨s, P'⟩ := P.freeze0 h4 h5 h6.1 h6.2 ⟨u, hu⟩
    exact ⟨_, s, P', OwnAt.rep (.inr rfl) (q.fut (P.fut s) rfl), rfl⟩
  cases o with
  | un => exact h.elim
  | d x => exact ⟨W, .refl _ _ _, P, h, rfl⟩
  | lst _ => obtain ⟨a, rfl, h2, h3, h4, h5, h6⟩ := h; exact go h2 h4 h5 h6
  | dK _ => obtain ⟨a, rfl, h2, h3, h4, h5, h6⟩ := h; exact go h2 h4 h5 h6
  | dT _ => obtain ⟨a, rfl, h2, h3, h4, h5, h6⟩ := h; exact go h2 h4 h5 h6
  | ins _ _ _ => obtain ⟨a, rfl, h2, h3, h4, h5, h6⟩ := h; exact go h2 h4 h5 h6
end
/-! ### expressions -/
section
variable {X : Cx} {e a b : Expr} {f f1 f2 : Ex} {g : Ox} {pos : Pos}
def xF (f : Ox) : Ex := fun E st Q => f E st fun o st' => Q (.v o.toD) st'
/-- what came, for a slot: a slot's thing that is read becomes plain -/
def frz (st : Ps) : R → Option (D × Ps)
  | .v d => some (d, st)
  | .ref i => match st.ρ[i]? with
    | some .un => none
    | some (.d x) => some (x, st)
    | some o => some (o.toD, { st with ρ := st.ρ.set i (.d o.toD) })
    | none => none
def xU (f : Ex) : Ox := fun E st Q => f E st fun r st' => opt (frz st' r) fun q => Q (.d q.1) q.2
theorem px_F (h : PO X e g) : PX X e (xF g) := fun c l => peOf (h c l) fun σ H Q ⟨W, st, H1, Q0, hH, P, q, k⟩ => ⟨W, st, H1, _, hH, P, q, fun o st' v W' H2 q0 s P2 ov => by
  obtain ⟨W3, s3, P3, r, eL⟩ := OV.plain P2 ov
  rw [← eL]
  exact k _ _ _ _ _ q0 (s.trans s3) P3 r⟩
theorem frz_ok {c : C0} {W : Wd} {st : Ps} {σ : L2.St} {H : Hp} (P : Pre c W st σ H) {r : R} {v : V} {q : D × Ps} (e : frz st r = some q) (h : RV W σ H v r) : ∃ W', Step c.rw W H W' H ∧ Pre c W' q.2 σ H ∧ Rp W' H v q.1 ∧ W'.L = W.L := by
  cases r with
  | v d =>
    cases e
    exact ⟨W, .refl _ _ _, P, h, rfl⟩
  | ref i =>
    have h' : σ[i]? = some (some v) := h
    unfold frz at e
    dsimp only at e
    cases z : st.ρ[i]? with
    | none => rw [z] at e; cases e
    | some o =>
      rw [z] at e
      have so := P.slot i o z
      rw [h'] at so
      have go : o.owned = true → some (o.toD, { st with ρ := st.ρ.set i (.d o.toD) }) = some q → ∃ W', Step c.rw W H W' H ∧ Pre c W' q.2 σ H ∧ Rp W' H v q.1 ∧ W'.L = W.L := fun ho e => by
        cases e
        obtain ⟨a, e1, e2⟩ := SlotOk.own ho so
        cases e1
        obtain ⟨s, P', r⟩ := P.freeze z ho h'
        exact ⟨_, s, P', r, rfl⟩
      cases o with
      | un => cases e
      | d x =>
        cases e
        obtain ⟨v', e1, e2⟩ := so
        cases e1
        exact ⟨W, .refl _ _ _, P, e2, rfl⟩
      | lst _ => exact go rfl e
      | dK _ => exact go rfl e
      | dT _ => exact go rfl e
      | ins _ _ _ => exact go rfl e
theorem po_U (h : PX X e f) : PO X e (xU f) := fun c l => peOf (h c l) fun σ H Q ⟨W, st, H1, Q0, hH, P, q, k⟩ => ⟨W, st, H1, _, hH, P, q, fun r st' v W' H2 q0 s P2 rv => by
  obtain ⟨y, e, q1⟩ := opt_ex q0
  obtain ⟨W3, s3, P3, r, eL⟩ := frz_ok P2 e rv
  rw [← eL]
  exact k _ _ _ _ _ q1 (s.trans s3) P3 r⟩
/-! ### names and constants -/
def xC (d : D) : Ex := fun _ st Q => Q (.v d) st
def xV (i : Nat) : Ex := fun _ st Q => match st.ρ[i]? with
  | some .un => False
  | some (.d x) => Q (.v x) st
  | some _ => Q (.ref i) st
  | none => False
theorem px_C {d : D} {v : V} (h : PE X e (tC v)) (r : ∀ φ F H, Rep φ F H v d) : PX X e (xC d) := fun c l => peOf h fun σ H Q ⟨W, st, H1, Q0, hH, P, q, k⟩ => by
  subst hH
  exact k _ _ _ _ _ q (.refl _ _ _) P (r _ _ _)
theorem px_int {i j} : PX X (.Constant (.int i) j pos) (xC (.int i)) := px_C pe_int fun _ _ _ => .int _
theorem px_bl {i j} : PX X (.Constant (.bool i) j pos) (xC (.bl i)) := px_C pe_bl fun _ _ _ => .bl _
theorem px_str {i j} : PX X (.Constant (.str i) j pos) (xC (.str i)) := px_C pe_str fun _ _ _ => .str _
theorem px_non {j} : PX X (.Constant .none j pos) (xC .non) := px_C pe_non fun _ _ _ => .non
theorem px_var {i : Nat} (h : PE X e (tVar i)) : PX X e (xV i) := fun c l => peOf h fun σ H Q ⟨W, st, H1, Q0, hH, P, q, k⟩ => by
  subst hH
  unfold xV at q
  cases z : st.ρ[i]? with
  | none => rw [z] at q; exact q.elim
  | some o =>
    rw [z] at q
    have so := P.slot i o z
    have go : ∀ {a : Addr}, σ[i]?.join = some (.ref a) → Q0 (.ref i) st → tVar i σ (lockH W.L H1) Q := fun {a} e1 q => ⟨_, join_ref e1, k _ _ _ _ _ q (.refl _ _ _) P (join_ref e1)⟩
    cases o with
    | un => exact q.elim
    | d x =>
      obtain ⟨v', e1, e2⟩ := so
      exact ⟨v', join_ref e1, k _ _ _ _ _ q (.refl _ _ _) P e2⟩
    | lst _ => obtain ⟨a, e1, e2⟩ := so; exact go e1 q
    | dK _ => obtain ⟨a, e1, e2⟩ := so; exact go e1 q
    | dT _ => obtain ⟨a, e1, e2⟩ := so; exact go e1 q
    | ins _ _ _ => obtain ⟨a, e1, e2⟩ := so; exact go e1 q
/-! ### operators: g of the data -/
def xOp (g : D → D → Option O) (f1 f2 : Ex) : Ox := fun E st Q => f1 E st fun r1 st1 => f2 E st1 fun r2 st2 => opt (look st2 r1) fun d1 => opt (look st2 r2) fun d2 => opt (g d1 d2) fun o => Q o st2
def OpG (r : V → V → Hp → VK → Prop) (g : D → D → Option O) : Prop := ∀ c W st σ H v1 v2 d1 d2 o Q, Pre c W st σ H → Top W.φ W.F H v1 d1 → Top W.φ W.F H v2 d2 → g d1 d2 = some o → Res c W st σ H o Q → r v1 v2 (lockH W.L H) Q
/-- two parts, then a step by values -/
theorem op_go {r : V → V → Hp → VK → Prop} {g : D → D → Option O} (hr : OpG r g) {c : C0} {σ : L2.St} {H : Hp} {Q : VK} (h : tO c (xOp g f1 f2) σ H Q) : tX c f1 σ H fun x H1 => tX c f2 σ H1 fun y H2 => r x y H2 Q := by
  obtain ⟨W, st, H1, Q0, hH, P, q, k⟩ := h
  refine ⟨W, st, H1, _, hH, P, q, fun r1 st1 v1 W1 H2 q1 s1 P1 rv1 => ⟨W1, st1, H2, _, rfl, P1, q1, fun r2 st2 v2 W2 H3 q2 s2 P2 rv2 => ?_⟩⟩
  obtain ⟨d1, e1, q2⟩ := opt_ex q2
  obtain ⟨d2, e2, q2⟩ := opt_ex q2
  obtain ⟨o, e3, q2⟩ := opt_ex q2
  exact hr c W2 st2 σ H3 v1 v2 d1 d2 o Q P2 (P2.top (rv1.step P1 s2) e1) (P2.top rv2 e2) e3 fun v W' H4 s4 P4 ov => k _ _ _ _ _ q2 ((s1.trans s2).trans s4) P4 ov
theorem po_2 {ee : Expr} {r : V → V → Hp → VK → Prop} {g : D → D → Option O} (hr : OpG r g) (h : ∀ {t1 t2 : TE}, PE X a t1 → PE X b t2 → PE X ee (tOp r t1 t2)) (h1 : PX X a f1) (h2 : PX X b f2) : PO X ee (xOp g f1 f2) :=
  fun c l => peOf (h (h1 c l) (h2 c l)) fun σ H Q q => op_go hr q
/-- one part, then a step by values -/
def xUn (g : List Cell → D → (O → Prop) → Prop) (f : Ex) : Ox := fun E st Q => f E st fun r st1 => opt (look st1 r) fun d => g st1.S d fun o => Q o st1
def UnG (r : V → Hp → VK → Prop) (g : List Cell → D → (O → Prop) → Prop) : Prop := ∀ (c : C0) (W : Wd) (st : Ps) (σ : L2.St) (H : Hp) (v : V) (d : D) (Q : VK) (J : O → Prop), Pre c W st σ H → Top W.φ W.F H v d → g st.S d J → (∀ o, J o → Res c W st σ H o Q) → r v (lockH W.L H) Q
theorem po_1 {ee : Expr} {r : V → Hp → VK → Prop} {g : List Cell → D → (O → Prop) → Prop} (hr : UnG r g) (h : ∀ {t : TE}, PE X a t → PE X ee (fun σ H Q => t σ H fun x H1 => r x H1 Q)) (h1 : PX X a f) : PO X ee (xUn g f) :=
  fun c l => peOf (h (h1 c l)) fun σ H Q ⟨W, st, H1, Q0, hH, P, q, k⟩ => ⟨W, st, H1, _, hH, P, q, fun r1 st1 v W1 H2 q1 s1 P1 rv => by
    obtain ⟨d, e, q1⟩ := opt_ex q1
    exact hr c W1 st1 σ H2 v d Q _ P1 (P1.top rv e) q1 fun o qo v' W' H4 s4 P4 ov => k _ _ _ _ _ qo (s1.trans s4) P4 ov⟩
end
end Q
namespace Q
open PySem L2
/-! ### arguments -/
section
variable {X : Cx} {e a b : Expr} {es : List Expr} {f f1 f2 : Ex} {g : Ox} {ga : Ax} {pos p : Pos}
def xNil : Ax := fun _ st Q => Q [] st
def xCons (f : Ex) (g : Ax) : Ax := fun E st Q => f E st fun r st1 => g E st1 fun rs st2 => Q (r :: rs) st2
theorem pxa_nil : PXA X [] xNil := fun c l => paOf pa_nil fun σ H Q ⟨W, st, H1, Q0, hH, P, q, k⟩ => by
  subst hH
  exact k _ _ _ _ _ q (.refl _ _ _) P .nil
theorem args_go {c : C0} {σ : L2.St} {H : Hp} {Q : List V → Hp → Prop} (h : tXA c (xCons f ga) σ H Q) : tX c f σ H fun x H1 => tXA c ga σ H1 fun xs H2 => Q (x :: xs) H2 := by
  obtain ⟨W, st, H1, Q0, hH, P, q, k⟩ := h
  exact ⟨W, st, H1, _, hH, P, q, fun r1 st1 v1 W1 H2 q1 s1 P1 rv1 => ⟨W1, st1, H2, _, rfl, P1, q1, fun rs st2 vs W2 H3 q2 s2 P2 rvs => k _ _ _ _ _ q2 (s1.trans s2) P2 (.cons (rv1.step P1 s2) rvs)⟩⟩
theorem pxa_cons (h : PX X e f) (hr : PXA X es ga) (hs : starEach (e :: es) X.env = (false, eval e X.env) :: starEach es X.env := by rfl) : PXA X (e :: es) (xCons f ga) := fun c l =>
  paOf (pa_cons (h c l) (hr c l) hs) fun σ H Q h => args_go h
def looks (st : Ps) : List R → Option (List D)
  | [] => some []
  | r :: rs => match look st r, looks st rs with
    | some d, some ds => some (d :: ds)
    | _, _ => none
inductive Tops (φ : List (Addr × Addr)) (F : Addr → Prop) (H : Hp) : List V → List D → Prop
  | nil : Tops φ F H [] []
  | cons {v : V} {d : D} {vs : List V} {ds : List D} : Top φ F H v d → Tops φ F H vs ds → Tops φ F H (v :: vs) (d :: ds)
theorem Pre.tops {c : C0} {W : Wd} {st : Ps} {σ : L2.St} {H : Hp} (P : Pre c W st σ H) : ∀ {rs : List R} {vs : List V} {ds : List D}, RVs W σ H vs rs → looks st rs = some ds → Tops W.φ W.F H vs ds
  | [], _, _, .nil, e => by cases e; exact .nil
  | r :: rs, _, _, .cons h t, e => by
    unfold looks at e
    cases q1 : look st r with
    | none => rw [q1] at e; cases e
    | some d =>
      cases q2 : looks st rs with
      | none => rw [q1, q2] at e; cases e
      | some ds =>
        rw [q1, q2] at e
        cases e
        exact .cons (P.top h q1) (P.tops t q2)
def frzs (st : Ps) : List R → Option (List D × Ps)
  | [] => some ([], st)
  | r :: rs => match frz st r with
    | none => none
    | some q => match frzs q.2 rs with
      | none => none
      | some q' => some (q.1 :: q'.1, q'.2)
theorem frzs_ok {c : C0} {σ : L2.St} {H : Hp} : ∀ {rs : List R} {W : Wd} {st : Ps} {vs : List V} {q : List D × Ps}, Pre c W st σ H → frzs st rs = some q → RVs W σ H vs rs → ∃ W', Step c.rw W H W' H ∧ Pre c W' q.2 σ H ∧ RepL W'.φ W'.F H vs q.1 ∧ W'.L = W.L
  | [], W, st, _, q, P, e, .nil => by cases e; exact ⟨W, .refl _ _ _, P, .nil, rfl⟩
  | r :: rs, W, st, _, q, P, e, .cons h t => by
    unfold frzs at e
    cases q1 : frz st r with
    | none => rw [q1] at e; cases e
    | some y =>
      rw [q1] at e
      dsimp only at e
      cases q2 : frzs y.2 rs with
      | none => rw [q2] at e; cases e
      | some z =>
        rw [q2] at e
        cases e
        obtain ⟨W1, s1, P1, r1, l1⟩ := frz_ok P q1 h
        obtain ⟨W2, s2, P2, r2, l2⟩ := frzs_ok P1 q2 (t.step P s1)
        exact ⟨W2, s1.trans s2, P2, .cons (r1.fut (P1.fut s2)) r2, l2.trans l1⟩
/-! ### displays -/
def xTup (g : Ax) : Ox := fun E st Q => g E st fun rs st1 => opt (frzs st1 rs) fun q => q.1.length ≤ sizeLine ∧ Q (.d (.tup q.1)) q.2
def xLst (g : Ax) : Ox := fun E st Q => g E st fun rs st1 => opt (frzs st1 rs) fun q => q.1.length ≤ sizeLine ∧ Q (.lst q.1) q.2
theorem RepL.length {φ F H} : ∀ {vs : List V} {ds : List D}, RepL φ F H vs ds → vs.length = ds.length
  | _, _, .nil => rfl
  | _, _, .cons _ t => congrArg (· + 1) t.length
theorem po_tup {x1} (h : PXA X es ga) : PO X (.Tuple es x1 pos) (xTup ga) := fun c l => peOf (pe_tup (h c l)) fun σ H Q ⟨W, st, H1, Q0, hH, P, q, k⟩ => ⟨W, st, H1, _, hH, P, q, fun rs st1 vs W1 H2 q1 s1 P1 rvs => by
  obtain ⟨y, e, hl, q2⟩ := opt_ex q1
  obtain ⟨W2, s2, P2, r2, eL⟩ := frzs_ok P1 e rvs
  rw [← eL]
  exact ⟨by rw [r2.length]; exact hl, Res.newT P2 (fun v W' H3 s3 P3 ov => k _ _ _ _ _ q2 ((s1.trans s2).trans s3) P3 ov) r2⟩⟩
theorem po_lst (h : PXA X es ga) : PO X (.List es pos) (xLst ga) := fun c l => peOf (pe_lst (h c l)) fun σ H Q ⟨W, st, H1, Q0, hH, P, q, k⟩ => ⟨W, st, H1, _, hH, P, q, fun rs st1 vs W1 H2 q1 s1 P1 rvs => by
  obtain ⟨y, e, hl, q2⟩ := opt_ex q1
  obtain ⟨W2, s2, P2, r2, eL⟩ := frzs_ok P1 e rvs
  rw [← eL]
  exact ⟨by rw [r2.length]; exact hl, Res.new P2 (o := .lst y.1) (fun v W' H3 s3 P3 ov => k _ _ _ _ _ q2 ((s1.trans s2).trans s3) P3 ov) rfl fun p hp => ⟨vs, upd_same, r2.fut (fut_new W2 hp)⟩⟩⟩
/-! ### built-in calls: g of the data -/
abbrev Gc := List D → (O → Prop) → Prop
def xB (g : Gc) (fs : Ax) : Ox := fun E st Q => fs E st fun rs st1 => opt (looks st1 rs) fun ds => g ds fun o => Q o st1
def CallG (r : List V → Hp → VK → Prop) (g : Gc) : Prop := ∀ (c : C0) (W : Wd) (st : Ps) (σ : L2.St) (H : Hp) (vs : List V) (ds : List D) (Q : VK) (J : O → Prop), Pre c W st σ H → Tops W.φ W.F H vs ds → g ds J → (∀ o, J o → Res c W st σ H o Q) → r vs (lockH W.L H) Q
theorem b_go {r : List V → Hp → VK → Prop} {g : Gc} (hr : CallG r g) {c : C0} {σ : L2.St} {H : Hp} {Q : VK} (h : tO c (xB g ga) σ H Q) : tXA c ga σ H fun vs H1 => r vs H1 Q := by
  obtain ⟨W, st, H1, Q0, hH, P, q, k⟩ := h
  refine ⟨W, st, H1, _, hH, P, q, fun rs st1 vs W1 H2 q1 s1 P1 rvs => ?_⟩
  obtain ⟨ds, e1, q1⟩ := opt_ex q1
  exact hr c W1 st1 σ H2 vs ds Q _ P1 (P1.tops rvs e1) q1 fun o qo v W' H4 s4 P4 ov => k _ _ _ _ _ qo (s1.trans s4) P4 ov
theorem po_b {ee : Expr} {r : List V → Hp → VK → Prop} {g : Gc} (hr : CallG r g) (h : ∀ {t : TA}, PA X es t → PE X ee (tCB r t)) (ha : PXA X es ga) : PO X ee (xB g ga) := fun c l => peOf (h (ha c l)) fun σ H Q q => b_go hr q
/-! ### tests -/
def truD : D → Option Bool
  | .non => some false
  | .bl b => some b
  | .int i => some (i != 0)
  | .lst xs => some (!xs.isEmpty)
  | .tup xs => some (!xs.isEmpty)
  | _ => none
def xT (f : Ex) : Tx := fun E st Q => f E st fun r st1 => opt (look st1 r) fun d => opt (truD d) fun b => Q b st1
theorem RepL.isEmpty {φ F H} : ∀ {vs : List V} {ds : List D}, RepL φ F H vs ds → ds.isEmpty = vs.isEmpty
  | _, _, .nil => rfl
  | _, _, .cons _ _ => rfl
theorem pxt_val (h : PX X e f) (he : ∀ whole, isTrue e X.env whole = (do let v ← whole; standAt e.pos; holding [v] (truthy v)) := by intro _; rfl) : PXT X e (xT f) := fun c l => ptOf (pt_truth (h c l) he) fun σ H Q ⟨W, st, H1, Q0, hH, P, q, k⟩ => ⟨W, st, H1, _, hH, P, q, fun r st1 v W1 H2 q1 s1 P1 rv => by
  obtain ⟨d, e1, q1⟩ := opt_ex q1
  obtain ⟨b, e2, q1⟩ := opt_ex q1
  have t := P1.top rv e1
  refine ⟨b, ?_, k _ _ _ _ q1 s1 P1⟩
  cases t with
  | non => cases e2; rfl
  | bl x => cases e2; rfl
  | int i => cases e2; rfl
  | str i => cases e2
  | byt i => cases e2
  | ty i => cases e2
  | cls i => cases e2
  | cell i => cases e2
  | rows i => cases e2
  | scr i => cases e2
  | dK h1 h2 => cases e2
  | dT h1 h2 => cases e2
  | ins h1 h2 => cases e2
  | exc h1 h2 h3 => cases e2
  | err h1 h2 h3 => cases e2
  | err0 h1 => cases e2
  | lst h1 h2 => cases e2; exact .inl ⟨_, SqL.of (P1.nol h1 rfl), by rw [h2.isEmpty]⟩
  | tup h1 h2 => cases e2; exact .inr (.inl ⟨_, SqT.of (P1.nol h1 rfl), by rw [h2.isEmpty]⟩)⟩
/-- an expression's value, as a bool -/
def isB : O → Option Bool
  | .d (.bl b) => some b
  | _ => none
def xTO (f : Ox) : Tx := fun E st Q => f E st fun o st1 => opt (isB o) fun b => Q b st1
theorem ov_bl {c : C0} {W : Wd} {st : Ps} {σ : L2.St} {H : Hp} {v : V} {o : O} {b : Bool} (h : OV c W st σ H v o) (e : isB o = some b) : v = .bl b := by
  unfold isB at e
  split at e
  · cases e
    have h' : Rp W H v (.bl _) := h
    cases h'
    rfl
  · cases e
theorem pxt_2 {ee : Expr} {r : V → V → Hp → VK → Prop} {g : D → D → Option O} (hr : OpG r g) (h : ∀ {t1 t2 : TE}, PE X a t1 → PE X b t2 → PT X ee (tTest (tOp r t1 t2))) (h1 : PX X a f1) (h2 : PX X b f2) : PXT X ee (xTO (xOp g f1 f2)) :=
  fun c l => ptOf (h (h1 c l) (h2 c l)) fun σ H Q h => by
    obtain ⟨W, st, H1, Q0, hH, P, q, k⟩ := h
    refine op_go hr (f1 := f1) (f2 := f2) ⟨W, st, H1, _, hH, P, q, fun o st1 v W1 H2 q1 s1 P1 ov => ?_⟩
    obtain ⟨d, e1, q1⟩ := opt_ex q1
    exact ⟨d, ov_bl ov e1, k _ _ _ _ q1 s1 P1⟩
def xNotT (t : Tx) : Tx := fun E st Q => t E st fun b st1 => Q (!b) st1
def xAndT (t u : Tx) : Tx := fun E st Q => t E st fun b st1 => if b = true then u E st1 Q else Q false st1
def xOrT (t u : Tx) : Tx := fun E st Q => t E st fun b st1 => if b = true then Q true st1 else u E st1 Q
variable {tt uu : Tx} {rest : List Expr}
def PXW (X : Cx) (e : Expr) (f : Tx) : Prop := ∀ c, Lk X c → PW X e (tXT c f)
theorem pwOf {e : Expr} {t t' : TT} (h : PW X e t) (m : ∀ σ H Q, t' σ H Q → t σ H Q) : PW X e t' := ⟨fun wh pins s σ H Q I q => h.run wh pins s σ H Q I (m σ H Q q)⟩
theorem pxw_t (h : PXW X e tt) : PXT X e tt := fun c l => PW.pt (h c l)
theorem pxw_or1 (h : PXT X a tt) : PXW X (.BoolOp .Or [a] pos) tt := fun c l => pw_or1 (h c l)
theorem pxw_or (h1 : PXT X a tt) (h2 : PXW X (.BoolOp .Or (b :: rest) pos) uu) : PXW X (.BoolOp .Or (a :: b :: rest) pos) (xOrT tt uu) := fun c l => pwOf (pw_or (h1 c l) (h2 c l)) fun σ H Q ⟨W, st, H1, Q0, hH, P, q, k⟩ => ⟨W, st, H1, _, hH, P, q, fun b st1 W1 H2 q1 s1 P1 => by
  cases b with
  | false => exact iteF ⟨W1, st1, H2, Q0, rfl, P1, q1, fun b st2 W2 H3 q2 s2 P2 => k _ _ _ _ q2 (s1.trans s2) P2⟩
  | true => exact iteT (k _ _ _ _ q1 s1 P1)⟩
/-! ### and, or, not as values of bools; a if t else b -/
def xAnd (f : Ex) (g : Ex) : Ex := fun E st Q => f E st fun r st1 => match r with
  | .v (.bl b) => if b = true then g E st1 Q else Q (.v (.bl false)) st1
  | _ => False
def xOr (f : Ex) (g : Ex) : Ex := fun E st Q => f E st fun r st1 => match r with
  | .v (.bl b) => if b = true then Q (.v (.bl true)) st1 else g E st1 Q
  | _ => False
def xNot (f : Ex) : Ex := fun E st Q => f E st fun r st1 => match r with
  | .v (.bl b) => Q (.v (.bl (!b))) st1
  | _ => False
def xIf (t : Tx) (f g : Ex) : Ex := fun E st Q => t E st fun b st1 => if b = true then f E st1 Q else g E st1 Q
def xIfO (t : Tx) (f g : Ox) : Ox := fun E st Q => t E st fun b st1 => if b = true then f E st1 Q else g E st1 Q
end
end Q
namespace Q
open PySem L2
/-! ### data of the library's kind -/
mutual
def toP : D → Option PyData
  | .non => some .none
  | .bl b => some (.bool b)
  | .int i => some (.int i)
  | .str s => some (.str s)
  | .lst xs => match toPs xs with
    | some ps => some (.list ps)
    | none => none
  | .tup xs => match toPs xs with
    | some ps => some (.tuple ps)
    | none => none
  | _ => none
def toPs : List D → Option (List PyData)
  | [] => some []
  | x :: xs => match toP x, toPs xs with
    | some p, some ps => some (p :: ps)
    | _, _ => none
end
section
variable {c : C0} {W : Wd} {st : Ps} {σ : L2.St} {H : Hp} {K : PySem.W.Frag}
mutual
theorem Pre.dp (P : Pre c W st σ H) : ∀ {d : D} {v : V} {p : PyData}, Rp W H v d → toP d = some p → Dp K (lockH W.L H) v p
  | .non, _, _, h, e => by cases h; cases e; exact .non
  | .bl b, _, _, h, e => by cases h; cases e; exact .bl b
  | .int b, _, _, h, e => by cases h; cases e; exact .int b
  | .str b, _, _, h, e => by cases h; cases e; exact .str b
  | .lst xs, _, _, h, e => by
    cases h with
    | lst h1 h2 h3 =>
      unfold toP at e
      cases q : toPs xs with
      | none => rw [q] at e; cases e
      | some ps =>
        rw [q] at e
        cases e
        exact .lst (SqL.of (P.nol h2 rfl)) (P.dps h3 q)
  | .tup xs, _, _, h, e => by
    cases h with
    | tup h2 h3 =>
      unfold toP at e
      cases q : toPs xs with
      | none => rw [q] at e; cases e
      | some ps =>
        rw [q] at e
        cases e
        exact .tup (SqT.of (P.nol h2 rfl)) (P.dps h3 q)
  | .byt _, _, _, _, e => by cases e
  | .ty _, _, _, _, e => by cases e
  | .dK _, _, _, _, e => by cases e
  | .dT _, _, _, _, e => by cases e
  | .ins _ _, _, _, _, e => by cases e
  | .exc _ _ _ _, _, _, _, e => by cases e
  | .err _ _, _, _, _, e => by cases e
  | .cell _, _, _, _, e => by cases e
  | .rows _, _, _, _, e => by cases e
  | .cls _, _, _, _, e => by cases e
  | .scr _, _, _, _, e => by cases e
theorem Pre.dps (P : Pre c W st σ H) : ∀ {ds : List D} {vs : List V} {ps : List PyData}, RepL W.φ W.F H vs ds → toPs ds = some ps → DpAll K (lockH W.L H) vs ps
  | [], _, _, h, e => by cases h; cases e; exact .nil
  | d :: ds, _, _, h, e => by
    cases h with
    | cons h1 h2 =>
      unfold toPs at e
      cases q1 : toP d with
      | none => rw [q1] at e; cases e
      | some p =>
        cases q2 : toPs ds with
        | none => rw [q1, q2] at e; cases e
        | some ps =>
          rw [q1, q2] at e
          cases e
          exact .cons (P.dp h1 q1) (P.dps h2 q2)
end
theorem Pre.dpt (P : Pre c W st σ H) {d : D} {v : V} {p : PyData} (h : Top W.φ W.F H v d) (e : toP d = some p) : Dp K (lockH W.L H) v p := by
  cases h with
  | non => cases e; exact .non
  | bl b => cases e; exact .bl b
  | int b => cases e; exact .int b
  | str b => cases e; exact .str b
  | lst h2 h3 =>
    unfold toP at e
    split at e
    · rename_i q
      cases e
      exact .lst (SqL.of (P.nol h2 rfl)) (P.dps h3 q)
    · cases e
  | tup h2 h3 =>
    unfold toP at e
    split at e
    · rename_i q
      cases e
      exact .tup (SqT.of (P.nol h2 rfl)) (P.dps h3 q)
    · cases e
  | byt _ => cases e
  | ty _ => cases e
  | dK _ _ => cases e
  | dT _ _ => cases e
  | ins _ _ => cases e
  | exc _ _ _ => cases e
  | err _ _ _ => cases e
  | err0 _ => cases e
  | cell _ => cases e
  | rows _ => cases e
  | cls _ => cases e
  | scr _ => cases e
end
/-! ### == and != -/
def eqP (a b : D) : Option Bool := match toP a, toP b with
  | some p, some q => if SeqAt.shaped p && SeqAt.shaped q then some (PyData.eqv p q) else none
  | _, _ => none
def eqG (a b : D) : Option O := match eqP a b with
  | some x => some (.d (.bl x))
  | none => none
def neG (a b : D) : Option O := match eqP a b with
  | some x => some (.d (.bl (!x)))
  | none => none
theorem eqP_ex {a b : D} {x : Bool} (h : eqP a b = some x) : ∃ p q, toP a = some p ∧ toP b = some q ∧ SeqAt.shaped p = true ∧ SeqAt.shaped q = true ∧ x = PyData.eqv p q := by
  unfold eqP at h
  cases e1 : toP a with
  | none => rw [e1] at h; cases h
  | some p =>
    cases e2 : toP b with
    | none => rw [e1, e2] at h; cases h
    | some q =>
      rw [e1, e2] at h
      dsimp only at h
      split at h
      · rename_i hs
        cases h
        rw [Bool.and_eq_true_iff] at hs
        exact ⟨p, q, rfl, rfl, hs.1, hs.2, rfl⟩
      · cases h
theorem g_eq (K : PySem.W.Frag) : OpG (rEqD K) eqG := fun c W st σ H v1 v2 d1 d2 o Q P t1 t2 e h => by
  unfold eqG at e
  split at e
  · rename_i x q
    cases e
    obtain ⟨p, q', e1, e2, e3, e4, rfl⟩ := eqP_ex q
    exact ⟨p, q', P.dpt t1 e1, P.dpt t2 e2, e3, e4, h.d P (.bl _)⟩
  · cases e
theorem g_ne (K : PySem.W.Frag) : OpG (rNeD K) neG := fun c W st σ H v1 v2 d1 d2 o Q P t1 t2 e h => by
  unfold neG at e
  split at e
  · rename_i x q
    cases e
    obtain ⟨p, q', e1, e2, e3, e4, rfl⟩ := eqP_ex q
    exact ⟨p, q', P.dpt t1 e1, P.dpt t2 e2, e3, e4, h.d P (.bl _)⟩
  · cases e
/-! ### numbers -/
def addG : D → D → Option O
  | .int i, .int j => some (.d (.int (i + j)))
  | .str a, .str b => if a.length + b.length ≤ sizeLine then some (.d (.str (a ++ b))) else none
  | .lst a, .lst b => if a.length + b.length ≤ sizeLine then some (.lst (a ++ b)) else none
  | .tup a, .tup b => if a.length + b.length ≤ sizeLine then some (.d (.tup (a ++ b))) else none
  | _, _ => none
def rAddA (K : PySem.W.Frag) : V → V → Hp → VK → Prop := fun x y H Q => rI0 (fun i j => .int (i + j)) x y H Q ∨ (∃ i j, x = .str i ∧ y = .str j ∧ i.length + j.length ≤ sizeLine ∧ Q (.str (i ++ j)) H) ∨ rCat x y H Q ∨ rCatA K x y H Q
theorem RepL.append {φ F H} : ∀ {vs us : List V} {ds es : List D}, RepL φ F H vs ds → RepL φ F H us es → RepL φ F H (vs ++ us) (ds ++ es)
  | _, _, _, _, .nil, h => h
  | _, _, _, _, .cons a t, h => .cons a (t.append h)
theorem op_addA {X : Cx} (K : PySem.W.Frag) (h : X.K = K := by rfl) : OpR X (binaryOp .Add) (rAddA K) := by
  subst h
  exact op_add.or (op_add_str.or (op_cat.or op_catA))
theorem g_add (K : PySem.W.Frag) : OpG (rAddA K) addG := fun c W st σ H v1 v2 d1 d2 o Q P t1 t2 e h => by
  unfold addG at e
  split at e
  · cases e; cases t1; cases t2
    exact .inl ⟨_, _, rfl, rfl, h.d P (.int _)⟩
  · split at e
    · rename_i hl
      cases e; cases t1; cases t2
      exact .inr (.inl ⟨_, _, rfl, rfl, hl, h.d P (.str _)⟩)
    · cases e
  · split at e
    · rename_i hl
      cases e
      cases t1 with
      | lst h1 r1 =>
        cases t2 with
        | lst h2 r2 =>
          refine .inr (.inr (.inl ⟨_, _, _, _, rfl, rfl, P.nol h1 rfl, P.nol h2 rfl, by rw [r1.length, r2.length]; exact hl, ?_⟩))
          exact h.new P rfl fun p hp => ⟨_, upd_same, (r1.append r2).fut (fut_new W hp)⟩
    · cases e
  · split at e
    · rename_i hl
      cases e
      cases t1 with
      | tup h1 r1 =>
        cases t2 with
        | tup h2 r2 =>
          refine .inr (.inr (.inr ⟨_, _, _, _, rfl, rfl, SqT.of (P.nol h1 rfl), SqT.of (P.nol h2 rfl), by rw [r1.length, r2.length]; exact hl, fun e => ?_, fun n e => ?_, fun n1 n2 => ?_⟩))
          · subst e
            cases r1
            exact h.d P (.tup h2 r2)
          · subst e
            cases r2
            exact h.d P (by rw [List.append_nil]; exact .tup h1 r1)
          · exact h.newT P (r1.append r2)
    · cases e
  · cases e
def iiG0 (f : Int → Int → D) : D → D → Option O
  | .int i, .int j => some (.d (f i j))
  | _, _ => none
abbrev ltG := iiG0 fun i j => .bl (decide (i < j))
abbrev leG := iiG0 fun i j => .bl (decide (i ≤ j))
abbrev gtG := iiG0 fun i j => .bl (decide (j < i))
abbrev geG := iiG0 fun i j => .bl (decide (j ≤ i))
/-! ### in, not in -/
end Q
namespace Q
open PySem L2
section
variable {X : Cx} {e a b : Expr} {es : List Expr} {f f1 f2 : Ex} {g g1 g2 : Ox} {ga : Ax} {pos p : Pos} {s : Stmt} {rest sts : List Stmt} {sf sg : Sx} {tt : Tx}
/-! ### blocks -/
def sNx : Sx := fun _ K st => K.nx st
def sSeq (f g : Sx) : Sx := fun E K st => f E { K with nx := g E K } st
theorem pxb_nil : PXB X [] sNx := fun c l => pssOf pss_nil fun D σ H ⟨W, st, H1, K, hH, P, ek, q⟩ => by
  subst hH
  exact ek.1 _ _ _ _ q P (.refl _ _)
theorem pxb_cons (h1 : PXS X s sf) (h2 : PXB X rest sg) : PXB X (s :: rest) (sSeq sf sg) := fun c l => pssOf (pss_cons (h1 c l) (h2 c l)) fun D σ H ⟨W, st, H1, K, hH, P, ek, q⟩ =>
  ⟨W, st, H1, { K with nx := sg c.E K }, hH, P, ⟨fun st' W' σ' H' q' P' a => ⟨W', st', H', K, rfl, P', ek.aft a, q'⟩, ek.2.1, ek.2.2.1, ek.2.2.2⟩, q⟩
theorem pxb_one (h1 : PXS X s sf) : PXB X [s] sf := fun c l => pss_one (h1 c l)
/-! ### return -/
def sRet (g : Ox) : Sx := fun E K st => g E st K.rt
theorem pxs_ret (h : PO X e g) : PXS X (.Return (some e) pos) (sRet g) := fun c l => psOf (ps_ret (h c l)) fun D σ H ⟨W, st, H1, K, hH, P, ek, q⟩ =>
  ⟨W, st, H1, _, hH, P, q, fun o st' v W' H2 q0 s P' ov => ek.2.1 _ _ _ _ _ _ q0 P' (P.aft s) ov⟩
def sRetN : Sx := fun _ K st => K.rt (.d .non) st
/-- a slot's thing, handed on -/
def xMv (i : Nat) : Ox := fun _ st Q => match st.ρ[i]? with
  | some .un => False
  | some (.d x) => Q (.d x) st
  | some o => Q o { st with ρ := st.ρ.set i .un }
  | none => False
theorem Pre.drop {c : C0} {W : Wd} {st : Ps} {σ : L2.St} {H : Hp} (P : Pre c W st σ H) (i : Nat) : Pre c W { st with ρ := st.ρ.set i .un } σ H := by
  have low : ∀ {j : Nat} {a : Addr}, slotOwns (st.ρ.set i .un) σ j a → slotOwns st.ρ σ j a := fun {j a} z => by
    rcases owns_setO z with ⟨_, z, _⟩ | ⟨_, z⟩
    · cases z
    · exact z
  refine ⟨P.hrw, P.step, P.new, P.base, by simp only [List.length_set]; exact P.slen, fun j o h => ?_, fun j a z => P.sown j a (low z), fun j k a z y => P.sapart j k a (low z) (low y), fun a h => ?_, P.hvw, P.own0⟩
  · by_cases q : j = i
    · subst q
      rw [List.getElem?_set, if_pos rfl] at h
      split at h
      · cases h
        exact trivial
      · cases h
    · rw [List.getElem?_set_ne (Ne.symm q)] at h
      exact P.slot j o h
  · obtain ⟨h1, h2, h3, h4⟩ := P.rsv a h
    exact ⟨h1, h2, h3, fun j z => h4 j (low z)⟩
theorem OV.of_own {c : C0} {W : Wd} {st : Ps} {σ : L2.St} {H : Hp} {a : Addr} {o : O} (ho : o.owned = true) (h : OwnAt W H a o ∧ ¬ W.F a ∧ ¬ W.own a ∧ c.H0 a = none ∧ (∀ i, ¬ slotOwns st.ρ σ i a) ∧ ¬ c.R a) : OV c W st σ H (.ref a) o := by
  cases o with
  | un => cases ho
  | d x => cases ho
  | lst _ => exact ⟨a, rfl, h⟩
  | dK _ => exact ⟨a, rfl, h⟩
  | dT _ => exact ⟨a, rfl, h⟩
  | ins _ _ _ => exact ⟨a, rfl, h⟩
/-! ### expressions as statements; if -/
def sEx (g : Ox) : Sx := fun E K st => g E st fun _ st' => K.nx st'
def sIf (t : Tx) (f g : Sx) : Sx := fun E K st => t E st fun b st' => if b = true then f E K st' else g E K st'
theorem pxs_if (h : PXT X a tt) (h1 : PXB X sts sf) (h2 : PXB X rest sg) : PXS X (.If a sts rest pos) (sIf tt sf sg) := fun c l => psOf (ps_if (h c l) (h1 c l) (h2 c l)) fun D σ H ⟨W, st, H1, K, hH, P, ek, q⟩ =>
  ⟨W, st, H1, _, hH, P, q, fun b st' W' H2 q0 s P' => by
    cases b with
    | true => exact iteT ⟨W', st', H2, K, rfl, P', ek.aft (P.aft s), q0⟩
    | false => exact iteF ⟨W', st', H2, K, rfl, P', ek.aft (P.aft s), q0⟩⟩
/-! ### name = value -/
def sSet (i : Nat) (g : Ox) : Sx := fun E K st => g E st fun o st' => K.nx { st' with ρ := st'.ρ.set i (.d o.toD) }
def sSetO (i : Nat) (g : Ox) : Sx := fun E K st => g E st fun o st' => K.nx { st' with ρ := st'.ρ.set i o }
theorem OV.set {c : C0} {W : Wd} {st : Ps} {σ : L2.St} {H : Hp} {v : V} {o : O} (P : Pre c W st σ H) (i : Nat) (h : OV c W st σ H v o) : Pre c W { st with ρ := st.ρ.set i o } (σ.set i (some v)) H := by
  cases o with
  | un => exact h.elim
  | d x => exact P.set i h
  | lst _ => obtain ⟨a, rfl, h2, h3, h4, h5, h6, h7⟩ := h; exact P.setO i h2 h3 h4 h5 h6 h7
  | dK _ => obtain ⟨a, rfl, h2, h3, h4, h5, h6, h7⟩ := h; exact P.setO i h2 h3 h4 h5 h6 h7
  | dT _ => obtain ⟨a, rfl, h2, h3, h4, h5, h6, h7⟩ := h; exact P.setO i h2 h3 h4 h5 h6 h7
  | ins _ _ _ => obtain ⟨a, rfl, h2, h3, h4, h5, h6, h7⟩ := h; exact P.setO i h2 h3 h4 h5 h6 h7
theorem pxs_set {i : Nat} (h : ∀ {t : TE}, PE X e t → PS X s (tAsg t (gName i))) (hg : PO X e g) : PXS X s (sSet i g) := fun c l => psOf (h (hg c l)) fun D σ H ⟨W, st, H1, K, hH, P, ek, q⟩ =>
  ⟨W, st, H1, _, hH, P, q, fun o st' v W' H2 q0 s P' ov => by
    obtain ⟨W3, s3, P3, r, eL⟩ := OV.plain P' ov
    rw [← eL]
    exact ek.1 _ _ _ _ q0 (P3.set i r) (P.aft (s.trans s3))⟩
theorem pxs_setO {i : Nat} (h : ∀ {t : TE}, PE X e t → PS X s (tAsg t (gName i))) (hg : PO X e g) : PXS X s (sSetO i g) := fun c l => psOf (h (hg c l)) fun D σ H ⟨W, st, H1, K, hH, P, ek, q⟩ =>
  ⟨W, st, H1, _, hH, P, q, fun o st' v W' H2 q0 s P' ov => ek.1 _ _ _ _ q0 (OV.set P' i ov) (P.aft s)⟩
/-! ### several values, each for a slot -/
inductive OVs (c : C0) (W : Wd) (st : Ps) (σ : L2.St) (H : Hp) : List V → List O → Prop
  | nil : OVs c W st σ H [] []
  | cons {v : V} {o : O} {vs : List V} {os : List O} : OV c W st σ H v o → (o.owned = true → ∀ (i : Nat) (u : V) (o' : O), vs[i]? = some u → os[i]? = some o' → o'.owned = true → u ≠ v) → OVs c W st σ H vs os → OVs c W st σ H (v :: vs) (o :: os)
def C0.rs (c : C0) (a : Addr) : C0 := { c with R := fun b => c.R b ∨ b = a }
theorem Pre.res {c : C0} {W : Wd} {st : Ps} {σ : L2.St} {H : Hp} (P : Pre c W st σ H) {a : Addr} (h : ¬ W.F a ∧ ¬ W.own a ∧ (∃ o, H a = some o) ∧ ∀ i, ¬ slotOwns st.ρ σ i a) : Pre (c.rs a) W st σ H :=
  ⟨P.hrw, P.step, P.new, P.base, P.slen, P.slot, P.sown, P.sapart, fun b hb => hb.elim (P.rsv b) (fun e => by rw [e]; exact h), P.hvw, P.own0⟩
theorem Pre.unres {c : C0} {W : Wd} {st : Ps} {σ : L2.St} {H : Hp} {a : Addr} (P : Pre (c.rs a) W st σ H) : Pre c W st σ H := ⟨P.hrw, P.step, P.new, P.base, P.slen, P.slot, P.sown, P.sapart, fun b hb => P.rsv b (.inl hb), P.hvw, P.own0⟩
theorem Lk.res {c : C0} {a : Addr} (l : Lk X c) : Lk X (c.rs a) := Takes.imp l fun cls d σ H ⟨W, st, H1, C, fs, h1, P, h⟩ => ⟨W, st, H1, C, fs, h1, P.unres, h⟩
theorem OV.own {c : C0} {W : Wd} {st : Ps} {σ : L2.St} {H : Hp} {v : V} {o : O} (ho : o.owned = true) (h : OV c W st σ H v o) : ∃ a, v = .ref a ∧ OwnAt W H a o ∧ ¬ W.F a ∧ ¬ W.own a ∧ c.H0 a = none ∧ (∀ i, ¬ slotOwns st.ρ σ i a) ∧ ¬ c.R a := by
  cases o with
  | un => cases ho
  | d x => cases ho
  | lst _ => exact h
  | dK _ => exact h
  | dT _ => exact h
  | ins _ _ _ => exact h
theorem OVs.unres {c : C0} {W : Wd} {st : Ps} {σ : L2.St} {H : Hp} {a : Addr} : ∀ {vs : List V} {os : List O}, OVs (c.rs a) W st σ H vs os → OVs c W st σ H vs os ∧ ∀ (i : Nat) (u : V) (o' : O), vs[i]? = some u → os[i]? = some o' → o'.owned = true → u ≠ .ref a
  | _, _, .nil => ⟨.nil, fun i u o' h => by simp at h⟩
  | _, _, .cons (v := v) (o := o) h1 h2 h3 => by
    obtain ⟨q1, q2⟩ := h3.unres
    have low : OV c W st σ H v o ∧ (o.owned = true → v ≠ .ref a) := by
      cases ho : o.owned with
      | true =>
        obtain ⟨b, rfl, k1, k2, k3, k4, k5, k6⟩ := OV.own ho h1
        exact ⟨OV.of_own ho ⟨k1, k2, k3, k4, k5, fun z => k6 (.inl z)⟩, fun _ z => k6 (.inr (by cases z; rfl))⟩
      | false =>
        refine ⟨?_, fun z => by cases z⟩
        cases o with
        | un => exact h1
        | d x => exact h1
        | lst _ => cases ho
        | dK _ => cases ho
        | dT _ => cases ho
        | ins _ _ _ => cases ho
    refine ⟨.cons low.1 h2 q1, fun i u o' e1 e2 e3 => ?_⟩
    cases i with
    | zero =>
      cases e1
      cases e2
      exact low.2 e3
    | succ i => exact q2 i u o' (by simpa using e1) (by simpa using e2) e3
theorem OV.later {c : C0} {W : Wd} {st : Ps} {σ : L2.St} {H : Hp} {v u : V} {o o' : O} (i : Nat) (h : OV c W st σ H v o) (n : o.owned = true → o'.owned = true → u ≠ v) : OV c W { st with ρ := st.ρ.set i o' } (σ.set i (some u)) H v o := by
  cases ho : o.owned with
  | true =>
    obtain ⟨a, rfl, k1, k2, k3, k4, k5, k6⟩ := OV.own ho h
    refine OV.of_own ho ⟨k1, k2, k3, k4, fun j z => ?_, k6⟩
    rcases owns_set z with ⟨_, z, y⟩ | ⟨_, z⟩
    · exact n ho z (Option.some.inj y)
    · exact k5 j z
  | false =>
    cases o with
    | un => exact h
    | d x => exact h
    | lst _ => cases ho
    | dK _ => cases ho
    | dT _ => cases ho
    | ins _ _ _ => cases ho
end
end Q
namespace Q
open PySem L2 PySem.Spec PyProof.Rows
/-! ### what a def is worth, over plain data -/
abbrev EF := Addr → List (Str × D) → List Cell → Prop
abbrev MF := List D → EF → List Cell → (O → List Cell → Prop) → Prop
def RO (W : Wd) (H0 H : Hp) (v : V) (o : O) : Prop :=
  match o with
  | .un => False
  | .d x => Rp W H v x
  | o => ∃ a, v = .ref a ∧ OwnAt W H a o ∧ ¬ W.F a ∧ ¬ W.own a ∧ H0 a = none
def spM (rw : Bool) (np : Nat) (m : MF) : Sp := fun vs H Q E => ∃ W S H1 ds Q0 E0, H = lockH W.L H1 ∧ Base rw W S H1 ∧ RepL W.φ W.F H1 vs ds ∧ ds.length = np ∧ m ds E0 S Q0 ∧
  (∀ o S' v W' H2, Q0 o S' → Step rw W H1 W' H2 → (∀ a, W'.F a → W.F a ∨ H1 a = none) → Base rw W' S' H2 → W'.L = W.L → RO W' H1 H2 v o → Q v (lockH W.L H2)) ∧
  (∀ C fs S' od W' H2, E0 C fs S' → Step rw W H1 W' H2 → (∀ a, W'.F a → W.F a ∨ H1 a = none) → Base rw W' S' H2 → W'.L = W.L → ExcAt W' H2 od fs → E (.ref C) od (lockH W.L H2))
def st0 (rw : Bool) (n : Nat) (ds : List D) (S : List Cell) : Ps := ⟨ds.map O.d ++ List.replicate (n - ds.length) .un, S, rw, false⟩
def mk (rw : Bool) (n : Nat) (b : Sx) : MF := fun ds E0 S Q0 => b (fun C fs st => E0 C fs st.S) ⟨fun st => Q0 (.d .non) st.S, fun o st => Q0 o st.S, fun _ => False, fun _ => False⟩ (st0 rw n ds S)
theorem RepL.get {φ F H} : ∀ {vs : List V} {ds : List D} {i : Nat} {d : D}, RepL φ F H vs ds → ds[i]? = some d → ∃ v, vs[i]? = some v ∧ Rep φ F H v d
  | _, _, i, d, .nil, e => by simp at e
  | _, _, 0, d, .cons h _, e => by
    cases e
    exact ⟨_, rfl, h⟩
  | _, _, i + 1, d, .cons _ t, e => by
    obtain ⟨v, h1, h2⟩ := t.get (i := i) (by simpa using e)
    exact ⟨v, by simpa using h1, h2⟩
theorem RO.of_OV {c : C0} {W : Wd} {st : Ps} {σ : L2.St} {H : Hp} {v : V} {o : O} (h : OV c W st σ H v o) : RO W c.H0 H v o := by
  cases o with
  | un => exact h
  | d x => exact h
  | lst _ => obtain ⟨a, h1, h2, h3, h4, h5, _⟩ := h; exact ⟨a, h1, h2, h3, h4, h5⟩
  | dK _ => obtain ⟨a, h1, h2, h3, h4, h5, _⟩ := h; exact ⟨a, h1, h2, h3, h4, h5⟩
  | dT _ => obtain ⟨a, h1, h2, h3, h4, h5, _⟩ := h; exact ⟨a, h1, h2, h3, h4, h5⟩
  | ins _ _ _ => obtain ⟨a, h1, h2, h3, h4, h5, _⟩ := h; exact ⟨a, h1, h2, h3, h4, h5⟩
theorem pre0 {W : Wd} {S : List Cell} {H : Hp} {ds : List D} {vs : List V} {rw : Bool} {E : EK} {N : List Str} (B : Base rw W S H) (r : RepL W.φ W.F H vs ds) (hl : ds.length ≤ N.length) : Pre ⟨W, H, rw, E, fun _ => False⟩ W (st0 rw N.length ds S) (L2.start N vs) H := by
  have hv := r.length
  have no : ∀ i a, ¬ slotOwns (st0 rw N.length ds S).ρ (L2.start N vs) i a := fun i a ⟨o, h1, h2, _⟩ => by
    have h1' : (ds.map O.d ++ List.replicate (N.length - ds.length) O.un)[i]? = some o := h1
    rw [List.getElem?_append] at h1'
    split at h1'
    · rw [List.getElem?_map] at h1'
      cases e : ds[i]? with
      | none => rw [e] at h1'; cases h1'
      | some d => rw [e] at h1'; cases h1'; cases h2
    · have := List.mem_of_getElem? h1'
      rw [(List.mem_replicate.mp this).2] at h2
      cases h2
  refine ⟨rfl, .refl _ _ _, fun a h => .inl h, B, ?_, fun i o h => ?_, fun i a z => absurd z (no i a), fun i j a z => absurd z (no i a), fun a h => h.elim, fun h => (by cases h), fun a h => B.own_there h⟩
  · show (ds.map O.d ++ List.replicate (N.length - ds.length) O.un).length = (vs.map some ++ List.replicate (N.length - vs.length) none).length
    simp only [List.length_append, List.length_map, List.length_replicate]
    omega
  · have h' : (ds.map O.d ++ List.replicate (N.length - ds.length) O.un)[i]? = some o := h
    rw [List.getElem?_append] at h'
    split at h'
    · rename_i hi
      rw [List.length_map] at hi
      rw [List.getElem?_map] at h'
      cases e : ds[i]? with
      | none => rw [e] at h'; cases h'
      | some d =>
        rw [e] at h'
        cases h'
        obtain ⟨v, e1, e2⟩ := r.get e
        refine ⟨v, ?_, e2⟩
        show (vs.map some ++ List.replicate (N.length - vs.length) none)[i]?.join = some v
        rw [List.getElem?_append_left (by rw [List.length_map]; omega), List.getElem?_map, e1]
        rfl
    · have := List.mem_of_getElem? h'
      rw [(List.mem_replicate.mp this).2]
      exact trivial
/-! ### behind a body the locks are taken off -/
inductive Unl (X : Cx) : Hp → Hp → Prop
  | refl (H : Hp) : Unl X H H
  | step {H H' : Hp} {d : Addr} {od : Obj} {u : HO} : H d = some (.frz od u) → (∀ o' u', X.H_0 d ≠ some (.frz o' u')) → Unl X (upd H d u) H' → Unl X H H'
theorem Unl.inv {X : Cx} {pins : List (Addr × Obj)} {σ : L2.St} {s : Shared} {H H' : Hp} (h : Unl X H H') : L2.Inv X pins σ H s → L2.Inv X pins σ H' s := by
  induction h with
  | refl H => exact fun I => I
  | step a b _ ih => exact fun I => ih (I.unlock a b)
theorem Unl.none {X : Cx} {H H' : Hp} (h : Unl X H H') {a : Addr} : H a = none → H' a = none := by
  induction h with
  | refl H => exact fun e => e
  | step x b _ ih => exact fun e => ih (by rw [upd_ne (fun z => by rw [z, x] at e; cases e)]; exact e)
def enUnl (X : Cx) (D : Ends) : Ends := ⟨fun σ H => ∃ H', Unl X H H' ∧ D.nx σ H', fun v H => ∃ H', Unl X H H' ∧ D.rt v H', fun σ H => ∃ H', Unl X H H' ∧ D.bk σ H', fun σ H => ∃ H', Unl X H H' ∧ D.ct σ H'⟩
theorem pssUnl {X : Cx} {sts : List Stmt} {t : TS} (h : PSs X sts t) : PSs X sts (fun D => t (enUnl X D)) := ⟨fun pins s σ H D I q => by
  refine thn (h.run pins s σ H _ I q) fun fl s1 z => ?_
  cases fl with
  | next => obtain ⟨σ1, H1, J, H2, un, q1⟩ := z; exact ⟨σ1, H2, un.inv J, q1⟩
  | brk => obtain ⟨σ1, H1, J, H2, un, q1⟩ := z; exact ⟨σ1, H2, un.inv J, q1⟩
  | cont => obtain ⟨σ1, H1, J, H2, un, q1⟩ := z; exact ⟨σ1, H2, un.inv J, q1⟩
  | ret u => obtain ⟨v, σ1, H1, J, rv, H2, un, q1⟩ := z; exact ⟨v, σ1, H2, un.inv J, rv, q1⟩⟩
theorem takesUnl {X : Cx} {Ew : WX} (tk : Takes X Ew) : Takes X (fun cls d σ H => ∃ H', Unl X H H' ∧ Ew cls d σ H') := fun u s' x => by
  obtain ⟨a, B, sI, pins, σ, H, cls, d, e, I, nb, up, sky, na, os, ag, H', un, q⟩ := x
  exact tk u s' ⟨a, B, sI, pins, σ, H', cls, d, e, un.inv I, nb, up, sky, un.none na, os, ag, q⟩
theorem lookup_nodup {L : List (Addr × Obj)} {d : Addr} (h : d ∉ L.map (·.1)) : L.lookup d = none := by
  induction L with
  | nil => rfl
  | cons p L ih =>
    obtain ⟨a, o⟩ := p
    rw [List.map_cons, List.mem_cons, not_or] at h
    rw [List.lookup_cons]
    have : (d == a) = false := beq_eq_false_iff_ne.mpr h.1
    rw [this]
    exact ih h.2
theorem unl_go {X : Cx} {H : Hp} {L0 : List (Addr × Obj)} : ∀ (more : List (Addr × Obj)), ((more ++ L0).map (·.1)).Nodup → (∀ p ∈ more, (∃ u, H p.1 = some u) ∧ ∀ o' u', X.H_0 p.1 ≠ some (.frz o' u')) → Unl X (lockH (more ++ L0) H) (lockH L0 H)
  | [], _, _ => .refl _
  | (d, o) :: more, nd, h => by
    obtain ⟨⟨u, hu⟩, hn⟩ := h (d, o) List.mem_cons_self
    rw [List.cons_append, List.map_cons, List.nodup_cons] at nd
    have hl := lookup_nodup nd.1
    have e1 : ((d, o) :: (more ++ L0)).lookup d = some o := by rw [List.lookup_cons]; simp
    refine .step (d := d) (od := o) (u := u) ?_ hn ?_
    · show lockH ((d, o) :: (more ++ L0)) H d = _
      simp only [lockH, e1, hu]
      rfl
    · have e2 : upd (lockH ((d, o) :: more ++ L0) H) d u = lockH (more ++ L0) H := by
        funext b
        by_cases e : b = d
        · subst e
          rw [upd_same, lock_at hl, hu]
        · rw [upd_ne e]
          have : ((d, o) :: (more ++ L0)).lookup b = (more ++ L0).lookup b := by
            rw [List.lookup_cons]
            have : (b == d) = false := beq_eq_false_iff_ne.mpr e
            rw [this]
          show lockH ((d, o) :: (more ++ L0)) H b = _
          simp only [lockH, this]
      rw [e2]
      exact unl_go more nd.2 fun p hp => h p (List.mem_cons_of_mem _ hp)
theorem lookup_of_mem {L : List (Addr × Obj)} {p : Addr × Obj} (nd : (L.map (·.1)).Nodup) (h : p ∈ L) : L.lookup p.1 = some p.2 := by
  induction L with
  | nil => cases h
  | cons q L ih =>
    obtain ⟨a, o⟩ := q
    rw [List.map_cons, List.nodup_cons] at nd
    rw [List.lookup_cons]
    rcases List.mem_cons.mp h with e | h
    · subst e
      simp
    · have : p.1 ≠ a := fun z => nd.1 (by rw [← z]; exact List.mem_map.mpr ⟨p, h, rfl⟩)
      rw [beq_eq_false_iff_ne.mpr this]
      exact ih nd.2 h
/-- the world with the locks of the beginning -/
def Wd.relock (W' W : Wd) : Wd := { W' with L := W.L }
theorem Pre.exit {c : C0} {W : Wd} {st : Ps} {σ : L2.St} {H : Hp} {S0 : List Cell} {X : Cx} (P : Pre c W st σ H) (B : Base c.rw c.W0 S0 c.H0) (hX : ∀ d o' u', X.H_0 d = some (.frz o' u') → lockH c.W0.L c.H0 d = some (.frz o' u')) :
    Unl X (lockH W.L H) (lockH c.W0.L H) ∧ Step c.rw c.W0 c.H0 (W.relock c.W0) H ∧ Base c.rw (W.relock c.W0) st.S H := by
  obtain ⟨more, eL⟩ := P.step.locks
  have nd := P.base.lN
  refine ⟨?_, ⟨P.step.cells, P.step.sub, P.step.keep, P.step.tups, P.step.dom, P.step.ownNew, ⟨[], rfl⟩, P.step.ownOld⟩, ⟨P.base.fdom, P.base.len, P.base.cell, P.base.apart, P.base.ownF, B.lN, fun a o h => ?_⟩⟩
  · rw [eL] at nd ⊢
    refine unl_go more nd fun p hp => ?_
    have hm : p ∈ W.L := by rw [eL]; exact List.mem_append_left _ hp
    obtain ⟨h1, u, h2, h3⟩ := P.base.lF p.1 p.2 (lookup_of_mem (by rw [eL]; exact nd) hm)
    refine ⟨⟨u, h2⟩, fun o' u' e => ?_⟩
    rw [List.map_append] at nd
    have hl : c.W0.L.lookup p.1 = none := lookup_nodup fun z => (List.nodup_append.mp nd).2.2 _ (List.mem_map_of_mem hp) _ z rfl
    have e := hX _ _ _ e
    rw [lock_at hl] at e
    have key : H p.1 = some (.frz o' u') ∨ c.H0 p.1 = none := by
      rcases h1 with h1 | ⟨hr, h1⟩
      · rcases P.new p.1 h1 with f | n
        · exact .inl (P.step.keep p.1 _ e (fun hr ho => B.ownF hr p.1 ho f))
        · exact .inr n
      · exact .inl (P.step.keep p.1 _ e (fun z => by rw [hr] at z; cases z))
    rcases key with this | n
    · rw [h2] at this
      cases this
      cases h3
    · rw [n] at e
      cases e
  · obtain ⟨h1, u, h2, h3⟩ := B.lF a o h
    rcases h1 with h1 | ⟨hr, h1⟩
    · exact ⟨.inl (P.step.sub a h1), u, P.step.keep a u h2 (fun hr ho => B.ownF hr a ho h1), h3⟩
    · exact ⟨(P.step.ownOld a h1).elim (fun y => .inr ⟨hr, y⟩) (fun y => by rw [hr] at y; cases y), u, P.step.keep a u h2 (fun z => by rw [hr] at z; cases z), h3⟩
section
variable {P : Program} {w : World} {K : PySem.W.Frag} {mg : Str → Option Value} {base : Heap}
/-- a def's body, as a function of plain data -/
theorem fnM {x qual : Str} {st : Stmt} {f : Addr} {fd : FuncData} {N ps : List Str} {k : Nat} {b : Sx} {rw : Bool} (F : Fun K x qual st f fd) (S : FnScope N ps (defScope st)) (hN : ps.length ≤ N.length)
    (hb : ∀ (cdv : Value) (A : Around) (outer : List Env) (s : Shared) (H : Hp) (E : XK), Room k (A.deeper (envOfC qual (defScope st) s.heap.objs.size f cdv)) → PXB (cxOf (L2.CX P w) P w K mg base N qual (defScope st) f cdv A outer s H E) (defBody st) b) :
    FnOk P w K mg base (L2.CX P w) (k + 1) f fd ps (spM rw ps.length (mk rw N.length b)) := by
  refine F.okX S (fun vs H Q E h => ?_) fun cdv A outer s H vs Q E hr h => ?_
  · obtain ⟨W, S', H1, ds, Q0, E0, _, _, r, hl, _⟩ := h
    rw [r.length]
    exact hl
  · obtain ⟨W, S', H1, ds, Q0, E0, rfl, B, r, hl, q, kr, ke⟩ := h
    have hb' := hb cdv A outer s (lockH W.L H1) E hr
    refine ⟨_, pssUnl (hb' ⟨W, H1, rw, fun C fs st => E0 C fs st.S, fun _ => False⟩ ?_), ?_⟩
    · refine Takes.imp (takesUnl (takes_of rfl rfl rfl rfl)) ?_
      rintro cls od σ H ⟨W', st', H2, C, fs, rfl, P', rfl, ex, e0⟩
      obtain ⟨un, s1, B1⟩ := P'.exit (X := cxOf (L2.CX P w) P w K mg base N qual (defScope st) f cdv A outer s (lockH W.L H1) E) B (fun _ _ _ z => z)
      exact ⟨_, un, ke C fs st'.S od _ H2 e0 s1 P'.new B1 rfl ex⟩
    · refine ⟨W, st0 rw N.length ds S', H1, ⟨fun st => Q0 (.d .non) st.S, fun o st => Q0 o st.S, fun _ => False, fun _ => False⟩, rfl, pre0 B r (by omega), ⟨fun st' W' σ' H2 q' P' _ => ?_, fun o st' W' σ' H2 v q' P' _ ov => ?_, fun st' W' σ' H2 q' P' _ => q'.elim, fun st' W' σ' H2 q' P' _ => q'.elim⟩, q⟩
      · obtain ⟨un, s1, B1⟩ := P'.exit (X := cxOf (L2.CX P w) P w K mg base N qual (defScope st) f cdv A outer s (lockH W.L H1) E) B (fun _ _ _ z => z)
        exact ⟨_, un, kr _ _ _ _ H2 q' s1 P'.new B1 rfl (.non : Rp W' H2 .non .non)⟩
      · obtain ⟨un, s1, B1⟩ := P'.exit (X := cxOf (L2.CX P w) P w K mg base N qual (defScope st) f cdv A outer s (lockH W.L H1) E) B (fun _ _ _ z => z)
        exact ⟨_, un, kr _ _ _ _ H2 q' s1 P'.new B1 rfl (RO.of_OV ov)⟩
end
/-! ### calls -/
theorem Step.own0 {rw : Bool} {W W' : Wd} {H H' : Hp} (s : Step rw W H W' H') (h : rw = false) : ∀ a, W'.own a → W.own a := fun a ho => (s.ownNew a ho).elim id fun z => by rw [h] at z; cases z.1
theorem Step.up {rw : Bool} {W W' : Wd} {H H' : Hp} (s : Step false W H W' H') : Step rw W H W' H' := ⟨s.cells, s.sub, fun a o e _ => s.keep a o e (fun z => by cases z), s.tups, s.dom, fun a h => (s.ownNew a h).elim .inl fun z => (by cases z.1), s.locks, fun a h => (s.ownOld a h).elim .inl fun z => by cases z⟩
theorem OV.of_RO {c : C0} {W W' : Wd} {st : Ps} {σ : L2.St} {H H' : Hp} {v : V} {o : O} {S' : List Cell} (P : Pre c W st σ H) (h : RO W' H H' v o) : OV c W' { st with S := S' } σ H' v o := by
  have go : ∀ {a : Addr}, H a = none → c.H0 a = none ∧ (∀ i, ¬ slotOwns st.ρ σ i a) ∧ ¬ c.R a := fun {a} e => by
    refine ⟨Classical.byContradiction fun y => P.step.dom a y e, fun i z => ?_, fun z => ?_⟩
    · obtain ⟨u, h, _⟩ := P.sthere z
      rw [e] at h
      cases h
    · obtain ⟨_, _, ⟨u, h⟩, _⟩ := P.rsv a z
      rw [e] at h
      cases h
  cases o with
  | un => exact h
  | d x => exact h
  | lst _ => obtain ⟨a, h1, h2, h3, h4, h5⟩ := h; exact ⟨a, h1, h2, h3, h4, go h5⟩
  | dK _ => obtain ⟨a, h1, h2, h3, h4, h5⟩ := h; exact ⟨a, h1, h2, h3, h4, go h5⟩
  | dT _ => obtain ⟨a, h1, h2, h3, h4, h5⟩ := h; exact ⟨a, h1, h2, h3, h4, go h5⟩
  | ins _ _ _ => obtain ⟨a, h1, h2, h3, h4, h5⟩ := h; exact ⟨a, h1, h2, h3, h4, go h5⟩
/-- a call that may change the store: the arguments become plain -/
def cE (rw : Bool) (np : Nat) (m : MF) (E : EK) (st : Ps) (rs : List R) (Q : O → Ps → Prop) : Prop := (rw = true → st.rw = true) ∧ opt (frzs st rs) fun q => q.1.length = np ∧ m q.1 (fun C fs S' => E C fs { q.2 with S := S' }) q.2.S fun o S' => Q o { q.2 with S := S' }
theorem cE_ok {c : C0} {W : Wd} {st : Ps} {σ : L2.St} {H : Hp} {rw : Bool} {np : Nat} {m : MF} {rs : List R} {vs : List V} {Q : VK} {Q1 : O → Ps → Prop} (P : Pre c W st σ H) (r : RVs W σ H vs rs) (h : cE rw np m c.E st rs Q1)
    (k : ∀ o st' v W' H2, Q1 o st' → Step c.rw W H W' H2 → Pre c W' st' σ H2 → OV c W' st' σ H2 v o → Q v (lockH W'.L H2)) : spM rw np m vs (lockH W.L H) Q (WE (wish c) σ) := by
  obtain ⟨hrw, h⟩ := h
  obtain ⟨q, e, hn, h⟩ := opt_ex h
  obtain ⟨W2, s2, P2, r2, eL⟩ := frzs_ok P e r
  have up : ∀ {W' H'}, Step rw W2 H W' H' → Step c.rw W2 H W' H' := fun {W' H'} s => by
    cases rw with
    | false => exact s.up
    | true =>
      have e : c.rw = true := P.hrw.symm.trans (hrw rfl)
      rw [e]
      exact s
  refine ⟨W2, q.2.S, H, q.1, _, _, by rw [eL], P2.base.to (fun z => P.hrw.symm.trans (hrw z)), r2, hn, h, fun o S' v W' H2 q0 s n B el ro => ?_, fun C fs S' od W' H2 q0 s n B el ex => ?_⟩
  · rw [← el]
    exact k _ _ _ _ _ q0 (s2.trans (up s)) (P2.call (up s) n (P2.base.back B el (up s) (fun z => s.own0 z) n)) (OV.of_RO P2 ro)
  · exact ⟨W', _, H2, C, fs, by rw [el], P2.call (up s) n (P2.base.back B el (up s) (fun z => s.own0 z) n), rfl, ex, q0⟩
/-- a call that changes nothing: a slot's own thing stays its own where the answer is a plain value -/
def isSc : O → Bool
  | .d .non => true
  | .d (.bl _) => true
  | .d (.int _) => true
  | .d (.str _) => true
  | .d (.byt _) => true
  | _ => false
def cP (np : Nat) (m : MF) (E : EK) (st : Ps) (rs : List R) (Q : O → Ps → Prop) : Prop := opt (looks st rs) fun ds => opt (frzs st rs) fun q => ds.length = np ∧ m ds (fun C fs S' => E C fs { q.2 with S := S' }) st.S fun o S' => if isSc o = true then Q o st else Q o { q.2 with S := S' }
theorem frz_look {st : Ps} {r : R} {q : D × Ps} {d : D} (e : frz st r = some q) (h : look st r = some d) : q.1 = d ∧ q.2.S = st.S := by
  cases r with
  | v x =>
    cases e
    cases h
    exact ⟨rfl, rfl⟩
  | ref i =>
    unfold frz at e
    unfold look at h
    dsimp only at e h
    cases z : st.ρ[i]? with
    | none => rw [z] at e; cases e
    | some o =>
      rw [z] at e h
      cases o <;> first | (cases e; done) | (cases e; cases h; exact ⟨rfl, rfl⟩)
theorem look_frz {st : Ps} {r : R} {q : D × Ps} (e : frz st r = some q) : ∀ r' d, look st r' = some d → look q.2 r' = some d := by
  intro r' d h
  cases r with
  | v x => cases e; exact h
  | ref i =>
    unfold frz at e
    dsimp only at e
    cases z : st.ρ[i]? with
    | none => rw [z] at e; cases e
    | some o =>
      rw [z] at e
      have go : o.owned = true → q = (o.toD, { st with ρ := st.ρ.set i (.d o.toD) }) → look q.2 r' = some d := fun ho eq => by
        subst eq
        cases r' with
        | v y => exact h
        | ref j =>
          unfold look at h ⊢
          dsimp only at h ⊢
          by_cases ji : j = i
          · subst ji
            rw [z] at h
            rw [List.getElem?_set, if_pos rfl, if_pos (List.getElem?_eq_some_iff.mp z).1]
            cases o <;> first | (cases ho; done) | exact h
          · rw [List.getElem?_set_ne (Ne.symm ji)]
            exact h
      cases o with
      | un => cases e
      | d x => cases e; exact h
      | lst _ => cases e; exact go rfl rfl
      | dK _ => cases e; exact go rfl rfl
      | dT _ => cases e; exact go rfl rfl
      | ins _ _ _ => cases e; exact go rfl rfl
theorem frzs_looks : ∀ {rs : List R} {st : Ps} {q : List D × Ps} {ds : List D}, frzs st rs = some q → looks st rs = some ds → q.1 = ds ∧ q.2.S = st.S
  | [], st, q, ds, e, h => by cases e; cases h; exact ⟨rfl, rfl⟩
  | r :: rs, st, q, ds, e, h => by
    unfold frzs at e
    unfold looks at h
    cases q1 : frz st r with
    | none => rw [q1] at e; cases e
    | some y =>
      rw [q1] at e
      dsimp only at e
      cases q2 : frzs y.2 rs with
      | none => rw [q2] at e; cases e
      | some z =>
        rw [q2] at e
        cases e
        cases l1 : look st r with
        | none => rw [l1] at h; cases h
        | some d =>
          cases l2 : looks st rs with
          | none => rw [l1, l2] at h; cases h
          | some ds' =>
            rw [l1, l2] at h
            cases h
            obtain ⟨a1, a2⟩ := frz_look q1 l1
            have l3 : looks y.2 rs = some ds' := by
              clear q2
              induction rs generalizing ds' with
              | nil => exact l2
              | cons r2 rs ih =>
                unfold looks at l2 ⊢
                cases m1 : look st r2 with
                | none => rw [m1] at l2; cases l2
                | some d2 =>
                  cases m2 : looks st rs with
                  | none => rw [m1, m2] at l2; cases l2
                  | some ds2 =>
                    rw [m1, m2] at l2
                    cases l2
                    rw [look_frz q1 _ _ m1, ih _ m2]
            obtain ⟨b1, b2⟩ := frzs_looks q2 l3
            exact ⟨by rw [a1, b1], by rw [b2, a2]⟩
theorem cP_ok {c : C0} {W : Wd} {st : Ps} {σ : L2.St} {H : Hp} {np : Nat} {m : MF} {rs : List R} {vs : List V} {Q : VK} {Q1 : O → Ps → Prop} (P : Pre c W st σ H) (r : RVs W σ H vs rs) (h : cP np m c.E st rs Q1)
    (k : ∀ o st' v W' H2, Q1 o st' → Step c.rw W H W' H2 → Pre c W' st' σ H2 → OV c W' st' σ H2 v o → Q v (lockH W'.L H2)) : spM false np m vs (lockH W.L H) Q (WE (wish c) σ) := by
  obtain ⟨ds, e1, h⟩ := opt_ex h
  obtain ⟨q, e2, hn, h⟩ := opt_ex h
  obtain ⟨W2, s2, P2, r2, eL⟩ := frzs_ok P e2 r
  obtain ⟨a1, a2⟩ := frzs_looks e2 e1
  rw [a1] at r2
  refine ⟨W2, st.S, H, ds, _, _, by rw [eL], by rw [← a2]; exact P2.base.to (fun z => by cases z), r2, hn, h, fun o S' v W' H2 q0 s n B el ro => ?_, fun C fs S' od W' H2 q0 s n B el ex => ?_⟩
  · dsimp only at q0
    split at q0
    · rename_i hs
      have sf : Step false W H W H2 := ⟨fun _ _ e => e, fun _ h => h, fun a o e _ => s.keep a o e (fun z => by cases z), s.tups, s.dom, fun _ h => .inl h, ⟨[], rfl⟩, fun _ h => .inl h⟩
      have P3 : Pre c W st σ H2 := P.call (S' := st.S) sf.up (fun a h => .inl h) (P.base.later sf)
      rw [eL]
      refine k _ _ v _ _ q0 sf.up P3 ?_
      unfold isSc at hs
      split at hs
      · have ro' : Rp W' H2 v .non := ro
        cases ro'; exact (.non : Rp W H2 .non .non)
      · have ro' : Rp W' H2 v (.bl _) := ro
        cases ro'; exact (.bl _ : Rp W H2 _ (.bl _))
      · have ro' : Rp W' H2 v (.int _) := ro
        cases ro'; exact (.int _ : Rp W H2 _ (.int _))
      · have ro' : Rp W' H2 v (.str _) := ro
        cases ro'; exact (.str _ : Rp W H2 _ (.str _))
      · have ro' : Rp W' H2 v (.byt _) := ro
        cases ro'; exact (.byt _ : Rp W H2 _ (.byt _))
      · cases hs
    · rw [← el]
      exact k _ _ _ _ _ q0 (s2.trans s.up) (P2.call s.up n (P2.base.back B el s.up (fun z => s.own0 z) n)) (OV.of_RO P2 ro)
  · exact ⟨W', _, H2, C, fs, by rw [el], P2.call s.up n (P2.base.back B el s.up (fun z => s.own0 z) n), rfl, ex, q0⟩
section
variable {X : Cx} {ee : Expr} {es : List Expr} {ga : Ax} {np : Nat} {m : MF} {rw : Bool}
def xE (rw : Bool) (np : Nat) (m : MF) (ga : Ax) : Ox := fun E st Q => ga E st fun rs st1 => cE rw np m E st1 rs Q
def xP (np : Nat) (m : MF) (ga : Ax) : Ox := fun E st Q => ga E st fun rs st1 => cP np m E st1 rs Q
/-- how a call is read, whatever is wanted of errors -/
def CallSp (X : Cx) (ee : Expr) (es : List Expr) (sp : Sp) : Prop := ∀ (Ew : WX), Takes X Ew → ∀ {t : TA}, PA X es t → PE X ee (tCallS sp (WE Ew) t)
theorem po_E (h : CallSp X ee es (spM rw np m)) (ha : PXA X es ga) : PO X ee (xE rw np m ga) := fun c l => peOf (h (wish c) l (ha c l)) fun σ H Q ⟨W, st, H1, Q0, hH, P, q, k⟩ =>
  ⟨W, st, H1, _, hH, P, q, fun rs st1 vs W1 H2 q1 s1 P1 rvs => cE_ok P1 rvs q1 fun o st' v W' H3 q0 s P' ov => k _ _ _ _ _ q0 (s1.trans s) P' ov⟩
theorem po_P (h : CallSp X ee es (spM false np m)) (ha : PXA X es ga) : PO X ee (xP np m ga) := fun c l => peOf (h (wish c) l (ha c l)) fun σ H Q ⟨W, st, H1, Q0, hH, P, q, k⟩ =>
  ⟨W, st, H1, _, hH, P, q, fun rs st1 vs W1 H2 q1 s1 P1 rvs => cP_ok P1 rvs q1 fun o st' v W' H3 q0 s P' ov => k _ _ _ _ _ q0 (s1.trans s) P' ov⟩
theorem call_sp {k : Nat} {f : Addr} {fd : FuncData} {ps : List Str} {sp : Sp} {x : Str} {p pos : Pos} {e : Expr} (F : FnOk X.prog X.w X.K X.mg X.base (L2.CX X.prog X.w) k f fd ps sp) (hr : Room k X.A) (hg : Gl X x) (hm : X.mg x = some (.ref f)) (hk : PySem.W.keepIn X.K (.ref f) = true) (hb : Binds X.K fd ps [])
    (hdb : (x == ("__debug__" : Str)) = false := by decide) (he : starEach (e :: es) X.env = (false, eval e X.env) :: starEach es X.env := by rfl) (hpl : (backTo pos (starEach es X.env)).any (·.1) = false := by rfl) : CallSp X (.Call (.Name x p) (e :: es) [] pos) (e :: es) sp :=
  fun Ew tk {t} ha => pe_callS F hr hg hm hk hb (fun σ => passAt tk σ) ha hdb he hpl
end
end Q
namespace Q
open PySem L2 PySem.Spec PyProof.Rows
/-! ### targets -/
abbrev Tg := D → Ps → (Ps → Prop) → Prop
theorem set_wipe {σ : L2.St} {i : Nat} {x : Option V} {vs : List Nat} (h : i ∈ vs) : wipe (σ.set i x) vs = wipe σ vs := by
  induction vs with
  | nil => cases h
  | cons v vs ih =>
    unfold wipe
    by_cases e : i ∈ vs
    · rw [ih e]
    · have e2 : i = v := (List.mem_cons.mp h).elim id fun z => absurd z e
      subst e2
      clear ih h
      have : ∀ (vs : List Nat), i ∉ vs → wipe (σ.set i x) vs = (wipe σ vs).set i x := by
        intro vs
        induction vs with
        | nil => intro _; rfl
        | cons w vs ih =>
          intro n
          rw [List.mem_cons, not_or] at n
          unfold wipe
          rw [ih n.2, List.set_comm _ _ n.1]
      rw [this vs e, List.set_set]
def tXG (c : C0) (tg : Tg) (is : List Nat) : TG := fun v σ H Q => ∃ W st H1 d Q0, H = lockH W.L H1 ∧ Pre c W st σ H1 ∧ Rp W H1 v d ∧ tg d st Q0 ∧
  ∀ st' σ', Q0 st' → Pre c W st' σ' H1 → (∀ vs : List Nat, (∀ i ∈ is, i ∈ vs) → wipe σ' vs = wipe σ vs) → Q σ' (lockH W.L H1)
def PXG (X : Cx) (e : Expr) (tg : Tg) (is : List Nat) : Prop := ∀ c, Lk X c → PG X e (tXG c tg is)
theorem pgOf {X : Cx} {e : Expr} {t t' : TG} (h : PG X e t) (m : ∀ v σ H Q, t' v σ H Q → t v σ H Q) : PG X e t' := ⟨fun pins s σ H v u Q I r q => h.run pins s σ H v u Q I r (m v σ H Q q)⟩
theorem pgsOf {X : Cx} {e : List Expr} {t t' : TGs} (h : PGs X e t) (m : ∀ v σ H Q, t' v σ H Q → t v σ H Q) : PGs X e t' := ⟨fun pins s σ H v u Q I r q => h.run pins s σ H v u Q I r (m v σ H Q q)⟩
def gN (i : Nat) : Tg := fun d st Q => Q { st with ρ := st.ρ.set i (.d d) }
theorem pxg_name {X : Cx} {e : Expr} {i : Nat} (h : PG X e (gName i)) : PXG X e (gN i) [i] := fun c l => pgOf h fun v σ H Q ⟨W, st, H1, d, Q0, hH, P, r, q, k⟩ => by
  subst hH
  exact k _ _ q (P.set i r) fun vs hv => set_wipe (hv i List.mem_cons_self)
abbrev Tgs := List D → Ps → (Ps → Prop) → Prop
def tXGs (c : C0) (tg : Tgs) (is : List Nat) : TGs := fun vs σ H Q => ∃ W st H1 ds Q0, H = lockH W.L H1 ∧ Pre c W st σ H1 ∧ RepL W.φ W.F H1 vs ds ∧ tg ds st Q0 ∧
  ∀ st' σ', Q0 st' → Pre c W st' σ' H1 → (∀ vs : List Nat, (∀ i ∈ is, i ∈ vs) → wipe σ' vs = wipe σ vs) → Q σ' (lockH W.L H1)
def PXGs (X : Cx) (es : List Expr) (tg : Tgs) (is : List Nat) : Prop := ∀ c, Lk X c → PGs X es (tXGs c tg is)
def gsN : Tgs := fun ds st Q => ds = [] ∧ Q st
def gsC (t : Tg) (u : Tgs) : Tgs := fun ds st Q => match ds with
  | d :: ds => t d st fun st' => u ds st' Q
  | [] => False
theorem pxgs_nil {X : Cx} : PXGs X [] gsN [] := fun c l => pgsOf pgs_nil fun vs σ H Q ⟨W, st, H1, ds, Q0, hH, P, r, q, k⟩ => by
  subst hH
  obtain ⟨rfl, q⟩ := q
  cases r
  exact ⟨rfl, k _ _ q P fun _ _ => rfl⟩
theorem pxgs_cons {X : Cx} {e : Expr} {es : List Expr} {t : Tg} {u : Tgs} {is js : List Nat} (h1 : PXG X e t is) (h2 : PXGs X es u js) (hs : (assignEach (e :: es) X.env).map (·.2) = assign e X.env :: (assignEach es X.env).map (·.2) := by rfl) : PXGs X (e :: es) (gsC t u) (is ++ js) :=
  fun c l => pgsOf (pgs_cons (h1 c l) (h2 c l) hs) fun vs σ H Q ⟨W, st, H1, ds, Q0, hH, P, r, q, k⟩ => by
    cases r with
    | nil => exact q.elim
    | cons r1 r2 =>
      exact ⟨_, _, rfl, W, st, H1, _, _, hH, P, r1, q, fun st' σ' q' P' w1 => ⟨W, st', H1, _, _, rfl, P', r2, q', fun st2 σ2 q2 P2 w2 => k _ _ q2 P2 fun vs hv => (w2 vs fun i hi => hv i (List.mem_append_right _ hi)).trans (w1 vs fun i hi => hv i (List.mem_append_left _ hi))⟩⟩
def gT (n : Nat) (u : Tgs) : Tg := fun d st Q => match d with
  | .tup ds => ds.length = n ∧ u ds st Q
  | _ => False
theorem pxg_tup {X : Cx} {es : List Expr} {k n : Nat} {u : Tgs} {is : List Nat} {pos : Pos} (hc : X.calm = true) (h : PXGs X es u is) (hn : (assignEach es X.env).length = n := by rfl) (hst : (assignEach es X.env).findIdx? (·.1) = none := by rfl) : PXG X (.Tuple es k pos) (gT n u) is :=
  fun c l => pgOf (pg_tup hc (h c l) hn hst) fun v σ H Q ⟨W, st, H1, d, Q0, hH, P, r, q, k⟩ => by
    unfold gT at q
    split at q
    · obtain ⟨hl, q⟩ := q
      cases r with
      | tup h1 r1 =>
        subst hH
        exact ⟨_, _, rfl, SqT.of (P.nol h1 rfl), by rw [r1.length]; exact hl, W, st, H1, _, Q0, rfl, P, r1, q, k⟩
    · exact q.elim
/-- targets = value -/
def sAsg (g : Ox) (tg : Tg) : Sx := fun E K st => g E st fun o st1 => tg o.toD st1 fun st2 => K.nx st2
/-! ### what is walked -/
def YD (W : Wd) (H : Hp) (x : V) (H3 : Hp) (d : D) : Prop := (H3 = lockH W.L H ∧ Rp W H x d) ∨ ∃ T ys es, x = .ref T ∧ H T = none ∧ W.L.lookup T = none ∧ H3 = upd (lockH W.L H) T (.tup ys) ∧ d = .tup es ∧ RepL W.φ W.F H ys es
def Goes (c : C0) (W : Wd) (H : Hp) (J : It) (ds : List D) : Prop := ∀ (Z : Addr → Prop) W2 st2 σ2 H2, Pre { c with R := Z } W2 st2 σ2 H2 → Aft W H W2 H2 →
  (∀ i d, ds[i]? = some d → J.go i (lockH W2.L H2) ∧ ∀ x H3, J.yld i (lockH W2.L H2) x H3 → YD W2 H2 x H3 d) ∧ ∀ i, ds.length ≤ i → J.stop i (lockH W2.L H2)
theorem YD.ok {c : C0} {W : Wd} {st : Ps} {σ : L2.St} {H H3 : Hp} {x : V} {d : D} (P : Pre c W st σ H) (h : YD W H x H3 d) : ∃ H', H3 = lockH W.L H' ∧ Step c.rw W H W H' ∧ Pre c W st σ H' ∧ Rp W H' x d := by
  rcases h with ⟨rfl, r⟩ | ⟨T, ys, es, rfl, hT, hl, rfl, rfl, r⟩
  · exact ⟨H, rfl, .refl _ _ _, P, r⟩
  · obtain ⟨s, P', _⟩ := P.fresh (o := .tup ys) hT
    exact ⟨_, lock_upd hl, s, P', .tup upd_same (r.fut (P.fut s))⟩
abbrev Ix := EK → Ps → (List D → Ps → Prop) → Prop
def tXI (c : C0) (f : Ix) : TI := fun σ H R => ∃ W st H1 Q0, H = lockH W.L H1 ∧ Pre c W st σ H1 ∧ f c.E st Q0 ∧
  ∀ ds st' W' H2 J, Q0 ds st' → Step c.rw W H1 W' H2 → Pre c W' st' σ H2 → Goes c W' H2 J ds → R J (lockH W'.L H2)
def PXI (X : Cx) (tg iter : Expr) (f : Ix) : Prop := ∀ c, Lk X c → PI X tg iter (tXI c f)
theorem piOf {X : Cx} {tg iter : Expr} {t t' : TI} (h : PI X tg iter t) (m : ∀ σ H R, t' σ H R → t σ H R) : PI X tg iter t' := ⟨fun pins s σ H R I q => h.run pins s σ H R I (m σ H R q)⟩
/-! ### for -/
def forW (tg : Tg) (b : Sx) (E : EK) (K : En) : List D → Ps → Prop
  | [], st => K.nx st
  | d :: ds, st => tg d st fun st' => b E ⟨forW tg b E K ds, K.rt, K.nx, forW tg b E K ds⟩ st'
def sFor (f : Ix) (tg : Tg) (b : Sx) : Sx := fun E K st => f E st fun ds st1 => forW tg b E K ds st1
theorem pxs_for {X : Cx} {tge iter : Expr} {body : List Stmt} {s : Stmt} {f : Ix} {tg : Tg} {is : List Nat} {b : Sx} (h : ∀ {wi : TI} {g : TG} {tb : TS}, PI X tge iter wi → PG X tge g → PSs X body tb → PS X s (tFor wi g tb)) (hi : PXI X tge iter f) (hg : PXG X tge tg is) (hb : PXB X body b) : PXS X s (sFor f tg b) :=
  fun c l => psOf (h (hi c l) (hg c l) (hb c l)) fun D σ H ⟨W, st, H1, K, hH, P, ek, q⟩ => by
    refine ⟨W, st, H1, _, hH, P, q, fun ds st1 W1 H2 J q1 s1 P1 go => ?_⟩
    refine ⟨fun i m σ H => m = ds.length - i ∧ i ≤ ds.length ∧ ∃ W2 st2 H3, H = lockH W2.L H3 ∧ Pre c W2 st2 σ H3 ∧ Aft W1 H2 W2 H3 ∧ forW tg b c.E K (ds.drop i) st2, ⟨ds.length, by simp, Nat.zero_le _, W1, st1, H2, rfl, P1, .refl _ _, q1⟩, ?_⟩
    rintro i m σ2 Hh ⟨rfl, hi, W2, st2, H3, rfl, P2, a2, q2⟩
    obtain ⟨g1, g2⟩ := go c.R W2 st2 σ2 H3 P2 a2
    by_cases hlt : i < ds.length
    · obtain ⟨g3, g4⟩ := g1 i ds[i] (List.getElem?_eq_getElem hlt)
      rw [List.drop_eq_getElem_cons hlt] at q2
      refine .inr ⟨g3, fun σ' H' => i + 1 ≤ ds.length ∧ ∃ W2 st2 H3, H' = lockH W2.L H3 ∧ Pre c W2 st2 σ' H3 ∧ Aft W1 H2 W2 H3 ∧ forW tg b c.E K (ds.drop (i + 1)) st2, fun σ' H' z => ⟨ds.length - (i + 1), by omega, rfl, z⟩, fun x H' y => ?_⟩
      obtain ⟨H4, rfl, s4, P4, r4⟩ := YD.ok P2 (g4 x H' y)
      refine ⟨W2, st2, H4, _, _, rfl, P4, r4, q2, fun st5 σ5 q5 P5 _ => ⟨W2, st5, H4, _, rfl, P5, ⟨?_, ?_, ?_, ?_⟩, q5⟩⟩
      · exact fun st W6 σ H6 q P6 a6 => ⟨hlt, W6, st, H6, rfl, P6, (a2.trans (P2.aft s4)).trans a6, q⟩
      · exact fun o st W6 σ H6 v q P6 a6 ov => ek.2.1 _ _ _ _ _ _ q P6 ((((P.aft s1).trans a2).trans (P2.aft s4)).trans a6) ov
      · exact fun st W6 σ H6 q P6 a6 => ek.1 _ _ _ _ q P6 ((((P.aft s1).trans a2).trans (P2.aft s4)).trans a6)
      · exact fun st W6 σ H6 q P6 a6 => ⟨hlt, W6, st, H6, rfl, P6, (a2.trans (P2.aft s4)).trans a6, q⟩
    · have e : i = ds.length := by omega
      rw [e, List.drop_length] at q2
      exact .inl ⟨g2 i (by omega), ek.1 _ _ _ _ q2 P2 ((P.aft s1).trans a2)⟩
/-! ### while: at most n turns -/
end Q
namespace Q
open PySem L2 PySem.Spec PyProof.Rows
/-! ### a list, a tuple, a dict by its keys, a text -/
def rIt (K : PySem.W.Frag) (x : V) (H : Hp) (R : It → Hp → Prop) : Prop :=
  (∃ a, x = .ref a ∧ (∃ xs, SqL K H a xs) ∧ R (Itl K a) H) ∨ (∃ a, x = .ref a ∧ (∃ xs, SqT K H a xs) ∧ R (Itt K a) H) ∨ (∃ z, x = .str z ∧ R (Its z) H) ∨
  (∃ d kvs, x = .ref d ∧ ((∃ o, H d = some (.frz o (.dK kvs)) ∧ R (Itk d o kvs) H) ∨ (H d = some (.dK kvs) ∧ ∀ o, R (Itk d o kvs) (upd H d (.frz o (.dK kvs)))))) ∨
  (∃ d kvs, x = .ref d ∧ ((∃ o, H d = some (.frz o (.dT kvs)) ∧ R (Itkt d o kvs) H) ∨ (H d = some (.dT kvs) ∧ ∀ o, R (Itkt d o kvs) (upd H d (.frz o (.dT kvs))))))
section
variable {X : Cx} {pins : List (Addr × Obj)} {σ : L2.St} {s : Shared} {tg : Expr} {R : It → Hp → Prop}
theorem it_dK {H : Hp} {d : Addr} {o : Obj} {kvs : List (Key × V)} (I : L2.Inv X pins σ H s) (h : H d = some (.frz o (.dK kvs))) (q : R (Itk d o kvs) H) : wpAny (model X.prog X.w) X.A (pyIter (.ref d)) (PIE X pins σ tg R) X.xe s := by
  obtain ⟨hs, hgd, hx, es, ep, vs, hdt, hsz, kv, hm⟩ := I.frzK h
  exact iter_keys hs hgd hx hdt (pi_one (tk := s.toks) I _ (turn_keys _ hdt) ⟨_, Heap.get?_push_size _ rfl, rfl, by rw [hsz]; rfl⟩ q)
theorem it_dT {H : Hp} {d : Addr} {o : Obj} {kvs : List (List Key × V)} (I : L2.Inv X pins σ H s) (h : H d = some (.frz o (.dT kvs))) (q : R (Itkt d o kvs) H) : wpAny (model X.prog X.w) X.A (pyIter (.ref d)) (PIE X pins σ tg R) X.xe s := by
  obtain ⟨hs, hgd, hx, es, ep, hdt, hsz, en⟩ := I.frzT h
  exact iter_keys hs hgd hx hdt (pi_one (tk := s.toks) I _ (turn_keysT _ hdt) ⟨_, Heap.get?_push_size _ rfl, rfl, by rw [hsz]; rfl⟩ q)
theorem it_any {H : Hp} {x : V} {u : Value} (I : L2.Inv X pins σ H s) (r : RelV x u) (q : rIt X.K x H R) : wpAny (model X.prog X.w) X.A (pyIter u) (PIE X pins σ tg R) X.xe s := by
  rcases q with ⟨a, rfl, ⟨xs, hq⟩, q⟩ | ⟨a, rfl, ⟨xs, hq⟩, q⟩ | ⟨z, rfl, q⟩ | ⟨d, kvs, rfl, ⟨o, h, q⟩ | ⟨h, q⟩⟩ | ⟨d, kvs, rfl, ⟨o, h, q⟩ | ⟨h, q⟩⟩
  · cases r
    obtain ⟨its, rv, p, hz⟩ := I.list hq
    exact wpAny_pyIter_list p.isList (pi_one (tk := s.toks) I _ (turn_list a _) ⟨_, Heap.get?_push_size _ rfl, rfl, rfl⟩ q)
  · cases r
    obtain ⟨its, rv, p, hz⟩ := I.tuple hq
    exact wpAny_pyIter_tuple (show s.heap.IsTuple a its.toArray from p) (pi_one (tk := s.toks) I _ (turn_tuple a _) ⟨_, Heap.get?_push_size _ rfl, rfl, rfl⟩ q)
  · obtain ⟨t, rfl⟩ := r
    cases ha : z.cps.all (· < 128) with
    | false => exact wpAny_pyIter_wide ha (pi_one (tk := s.toks) I _ (turn_str _ z t "str_iterator" (.inr rfl)) ⟨_, Heap.get?_push_size _ rfl, rfl, rfl⟩ q)
    | true => exact wpAny_pyIter_ascii ha (pi_one (tk := s.toks) I _ (turn_str _ z t "str_ascii_iterator" (.inl rfl)) ⟨_, Heap.get?_push_size _ rfl, rfl, rfl⟩ q)
  · cases r
    exact it_dK I h q
  · cases r
    obtain ⟨od, I2⟩ := I.lock h trivial
    exact it_dK I2 upd_same (q od)
  · cases r
    exact it_dT I h q
  · cases r
    obtain ⟨od, I2⟩ := I.lock h trivial
    exact it_dT I2 upd_same (q od)
theorem pi_any {l : Expr} {tl : TE} (hl : PE X l tl) : PI X tg l (fun σ H R => tl σ H fun x H1 => rIt X.K x H1 R) := ⟨fun pins s σ H R I h => thn (hl.run pins s σ H _ I h) fun v s1 ⟨x, H1, I1, r1, q⟩ => it_any I1 r1 q⟩
end
/-! ### locks -/
def Wd.lk (W : Wd) (d : Addr) (o : Obj) : Wd := { W with L := (d, o) :: W.L }
theorem Pre.lock {c : C0} {W : Wd} {st : Ps} {σ : L2.St} {H : Hp} (P : Pre c W st σ H) {d : Addr} {u : HO} (o : Obj) (hF : W.F d ∨ c.rw = false ∧ W.own d) (hd : H d = some u) (hu : dictO u = true) (hl : W.L.lookup d = none) :
    Step c.rw W H (W.lk d o) H ∧ Pre c (W.lk d o) st σ H ∧ lockH (W.lk d o).L H = upd (lockH W.L H) d (.frz o u) := by
  have s1 : Step c.rw W H (W.lk d o) H := ⟨fun _ _ e => e, fun _ h => h, fun _ _ e _ => e, fun _ _ e => e, fun _ h => h, fun _ h => .inl h, ⟨[(d, o)], rfl⟩, fun _ h => .inl h⟩
  have e1 : ∀ b, ((d, o) :: W.L).lookup b = if b = d then some o else W.L.lookup b := fun b => by
    rw [List.lookup_cons]
    by_cases e : b = d
    · subst e
      simp
    · rw [beq_eq_false_iff_ne.mpr e, if_neg e]
  refine ⟨s1, ⟨P.hrw, P.step.trans s1, P.new, ⟨P.base.fdom, P.base.len, P.base.cell, P.base.apart, P.base.ownF, ?_, fun a ob h => ?_⟩, P.slen, P.slot, P.sown, P.sapart, P.rsv, P.hvw, P.own0⟩, ?_⟩
  · show ((d, o) :: W.L).map (·.1) |>.Nodup
    rw [List.map_cons, List.nodup_cons]
    refine ⟨fun z => ?_, P.base.lN⟩
    obtain ⟨p, hp, e⟩ := List.mem_map.mp z
    have := lookup_of_mem P.base.lN hp
    rw [show p.1 = d from e, hl] at this
    cases this
  · have h' : ((d, o) :: W.L).lookup a = some ob := h
    rw [e1] at h'
    split at h'
    · rename_i z
      subst z
      exact ⟨hF, u, hd, hu⟩
    · exact P.base.lF a ob h'
  · funext b
    show lockH ((d, o) :: W.L) H b = _
    unfold lockH
    rw [e1]
    by_cases z : b = d
    · subst z
      rw [if_pos rfl, upd_same, hd]
      rfl
    · rw [if_neg z, upd_ne z]
/-! ### the items -/
def kD : Key → D
  | .inl i => .int i
  | .inr s => .str s
def itemsD : D → Option (List D)
  | .lst xs => some xs
  | .tup xs => some xs
  | .dK kvs => some (kvs.map fun kv => kD kv.1)
  | .dT kvs => some (kvs.map fun kv => .tup (kv.1.map kD))
  | .str s => some (s.cps.toList.map fun c => .str ⟨#[c]⟩)
  | _ => none
def iA (f : Ex) : Ix := fun E st Q => f E st fun r st1 => opt (frz st1 r) fun q => opt (itemsD q.1) fun ds => Q ds q.2
theorem kD_rep (φ F H) (k : Key) : Rep φ F H (kV k) (kD k) := by
  cases k with
  | inl i => exact .int i
  | inr s => exact .str s
theorem kDs_rep (φ F H) : ∀ ks : List Key, RepL φ F H (ks.map kV) (ks.map kD)
  | [] => .nil
  | k :: ks => .cons (kD_rep φ F H k) (kDs_rep φ F H ks)
theorem RepK.length {φ F H} : ∀ {vs : List (Key × V)} {ds : List (Key × D)}, RepK φ F H vs ds → vs.length = ds.length
  | _, _, .nil => rfl
  | _, _, .cons _ t => congrArg (· + 1) t.length
theorem RepT.length {φ F H} : ∀ {vs : List (List Key × V)} {ds : List (List Key × D)}, RepT φ F H vs ds → vs.length = ds.length
  | _, _, .nil => rfl
  | _, _, .cons _ t => congrArg (· + 1) t.length
theorem RepK.get {φ F H} : ∀ {vs : List (Key × V)} {ds : List (Key × D)} {i : Nat} {k : Key} {v : V}, RepK φ F H vs ds → vs[i]? = some (k, v) → ∃ d, ds[i]? = some (k, d) ∧ Rep φ F H v d
  | _, _, i, k, v, .nil, e => by simp at e
  | _, _, 0, k, v, .cons h _, e => by cases e; exact ⟨_, rfl, h⟩
  | _, _, i + 1, k, v, .cons _ t, e => by
    obtain ⟨d, h1, h2⟩ := t.get (i := i) (by simpa using e)
    exact ⟨d, by simpa using h1, h2⟩
theorem RepT.get {φ F H} : ∀ {vs : List (List Key × V)} {ds : List (List Key × D)} {i : Nat} {k : List Key} {v : V}, RepT φ F H vs ds → vs[i]? = some (k, v) → ∃ d, ds[i]? = some (k, d) ∧ Rep φ F H v d
  | _, _, i, k, v, .nil, e => by simp at e
  | _, _, 0, k, v, .cons h _, e => by cases e; exact ⟨_, rfl, h⟩
  | _, _, i + 1, k, v, .cons _ t, e => by
    obtain ⟨d, h1, h2⟩ := t.get (i := i) (by simpa using e)
    exact ⟨d, by simpa using h1, h2⟩
section
variable {c : C0} {W : Wd} {st : Ps} {σ : L2.St} {H : Hp} {K : PySem.W.Frag}
theorem goes_l {a : Addr} {xs : List V} {ds : List D} (hF : W.F a) (h : H a = some (.lst xs)) (r : RepL W.φ W.F H xs ds) : Goes c W H (Itl K a) ds := fun Z W2 st2 σ2 H2 P2 a2 => by
  have h2 : SqL K (lockH W2.L H2) a xs := SqL.of (P2.nol (a2.fut.keep a _ hF h) rfl)
  have r2 := r.fut a2.fut
  refine ⟨fun i d e => ?_, fun i hi => ⟨xs, h2, by rw [r.length]; exact hi⟩⟩
  obtain ⟨v, e1, e2⟩ := r2.get e
  refine ⟨⟨xs, v, h2, e1⟩, ?_⟩
  rintro x H3 ⟨rfl, y⟩
  have := y xs h2
  rw [e1] at this
  cases this
  exact .inl ⟨rfl, e2⟩
theorem goes_t {a : Addr} {xs : List V} {ds : List D} (h : H a = some (.tup xs)) (r : RepL W.φ W.F H xs ds) : Goes c W H (Itt K a) ds := fun Z W2 st2 σ2 H2 P2 a2 => by
  have h2 : SqT K (lockH W2.L H2) a xs := SqT.of (P2.nol (a2.fut.tups a _ h) rfl)
  have r2 := r.fut a2.fut
  refine ⟨fun i d e => ?_, fun i hi => ⟨xs, h2, by rw [r.length]; exact hi⟩⟩
  obtain ⟨v, e1, e2⟩ := r2.get e
  refine ⟨⟨xs, v, h2, e1⟩, ?_⟩
  rintro x H3 ⟨rfl, y⟩
  have := y xs h2
  rw [e1] at this
  cases this
  exact .inl ⟨rfl, e2⟩
theorem goes_s (z : Str) : Goes c W H (Its z) (z.cps.toList.map fun c => .str ⟨#[c]⟩) := fun Z W2 st2 σ2 H2 P2 a2 => by
  refine ⟨fun i d e => ?_, fun i hi => ?_⟩
  · rw [List.getElem?_map] at e
    cases q : z.cps.toList[i]? with
    | none => rw [q] at e; cases e
    | some c =>
      rw [q] at e
      cases e
      refine ⟨?_, ?_⟩
      · have := (List.getElem?_eq_some_iff.mp q).1
        rw [Array.length_toList] at this
        exact this
      · rintro x H3 ⟨rfl, c', e1, rfl⟩
        rw [← Array.getElem?_toList, q] at e1
        cases e1
        exact .inl ⟨rfl, .str _⟩
  · rw [List.length_map, Array.length_toList] at hi
    exact hi
theorem lk_at {W W2 : Wd} {H H2 : Hp} {d : Addr} {o : Obj} {u : HO} {Z : Addr → Prop} {st2 : Ps} {σ2 : L2.St} (P2 : Pre { c with R := Z } W2 st2 σ2 H2) (a2 : Aft W H W2 H2) (hF : W.F d) (hl : W.L.lookup d = some o) (h : H d = some u) : lockH W2.L H2 d = some (.frz o u) := by
  obtain ⟨more, e⟩ := a2.locks
  have hm : (d, o) ∈ W.L := by
    clear a2 P2 h hF e
    generalize W.L = L at hl
    induction L with
    | nil => cases hl
    | cons p L ih =>
      obtain ⟨a, o'⟩ := p
      rw [List.lookup_cons] at hl
      cases q : d == a with
      | true =>
        rw [q] at hl
        cases hl
        rw [beq_iff_eq.mp q]
        exact List.mem_cons_self
      | false =>
        rw [q] at hl
        exact List.mem_cons_of_mem _ (ih hl)
  have := lookup_of_mem P2.base.lN (show (d, o) ∈ W2.L by rw [e]; exact List.mem_append_right _ hm)
  show lockH W2.L H2 d = _
  unfold lockH
  rw [this, a2.fut.keep d u hF h]
  rfl
theorem goes_k {d : Addr} {o : Obj} {xs : List (Key × V)} {ds : List (Key × D)} (hF : W.F d) (hl : W.L.lookup d = some o) (h : H d = some (.dK xs)) (r : RepK W.φ W.F H xs ds) : Goes c W H (Itk d o xs) (ds.map fun kv => kD kv.1) := fun Z W2 st2 σ2 H2 P2 a2 => by
  have h2 := lk_at P2 a2 hF hl h
  have hlen := r.length
  refine ⟨fun i x e => ?_, fun i hi => ⟨h2, by rw [List.length_map] at hi; omega⟩⟩
  have hi : i < ds.length := by
    have := (List.getElem?_eq_some_iff.mp e).1
    rw [List.length_map] at this
    exact this
  refine ⟨⟨h2, by omega⟩, ?_⟩
  rintro y H3 ⟨rfl, k, v, e1, rfl⟩
  obtain ⟨d', e2, _⟩ := r.get e1
  rw [List.getElem?_map, e2] at e
  cases e
  exact .inl ⟨rfl, kD_rep _ _ _ k⟩
theorem goes_kt {d : Addr} {o : Obj} {xs : List (List Key × V)} {ds : List (List Key × D)} (hF : W.F d) (hl : W.L.lookup d = some o) (h : H d = some (.dT xs)) (r : RepT W.φ W.F H xs ds) : Goes c W H (Itkt d o xs) (ds.map fun kv => .tup (kv.1.map kD)) := fun Z W2 st2 σ2 H2 P2 a2 => by
  have h2 := lk_at P2 a2 hF hl h
  have hlen := r.length
  refine ⟨fun i x e => ?_, fun i hi => ⟨h2, by rw [List.length_map] at hi; omega⟩⟩
  have hi : i < ds.length := by
    have := (List.getElem?_eq_some_iff.mp e).1
    rw [List.length_map] at this
    exact this
  refine ⟨⟨h2, by omega⟩, ?_⟩
  rintro y H3 ⟨rfl, k, v, q, e1, rfl, hq⟩
  obtain ⟨d', e2, _⟩ := r.get e1
  rw [List.getElem?_map, e2] at e
  cases e
  refine .inl ⟨rfl, .tup (xs := k.map kV) ?_ (kDs_rep _ _ _ k)⟩
  have : ∀ {a : Addr} {xs : List V}, lockH W2.L H2 a = some (.tup xs) → H2 a = some (.tup xs) := fun {a xs} z => by
    unfold lockH at z
    cases m : W2.L.lookup a with
    | none => rw [m] at z; exact z
    | some ob =>
      rw [m] at z
      cases m2 : H2 a with
      | none => rw [m2] at z; cases z
      | some w => rw [m2] at z; cases z
  exact this hq
end
theorem pxi_any {X : Cx} {tg e : Expr} {f : Ex} (h : PX X e f) : PXI X tg e (iA f) := fun c l => piOf (pi_any (h c l)) fun σ H R ⟨W, st, H1, Q0, hH, P, q, k⟩ => ⟨W, st, H1, _, hH, P, q, fun r st1 v W1 H2 q1 s1 P1 rv => by
  obtain ⟨y, e1, q1⟩ := opt_ex q1
  obtain ⟨ds, e2, q1⟩ := opt_ex q1
  obtain ⟨W2, s2, P2, r2, eL⟩ := frz_ok P1 e1 rv
  rw [← eL]
  have s12 := s1.trans s2
  obtain ⟨d, st2⟩ := y
  dsimp only at r2 P2 e2 q1
  unfold itemsD at e2
  split at e2
  · cases e2
    cases r2 with
    | lst h1 h2 h3 => exact .inl ⟨_, rfl, ⟨_, SqL.of (P2.nol h2 rfl)⟩, k _ _ _ _ _ q1 s12 P2 (goes_l h1 h2 h3)⟩
  · cases e2
    cases r2 with
    | tup h2 h3 => exact .inr (.inl ⟨_, rfl, ⟨_, SqT.of (P2.nol h2 rfl)⟩, k _ _ _ _ _ q1 s12 P2 (goes_t h2 h3)⟩)
  · cases e2
    cases r2 with
    | dK h1 h2 h3 =>
      rename_i a xs
      refine .inr (.inr (.inr (.inl ⟨a, xs, rfl, ?_⟩)))
      cases hl : W2.L.lookup a with
      | some o => exact .inl ⟨o, by show lockH W2.L H2 a = _; unfold lockH; rw [hl, h2]; rfl, k _ _ _ _ _ q1 s12 P2 (goes_k h1 hl h2 h3)⟩
      | none =>
        refine .inr ⟨(lock_at hl).trans h2, fun o => ?_⟩
        obtain ⟨s3, P3, e3⟩ := P2.lock o (.inl h1) h2 rfl hl
        rw [← e3]
        exact k _ _ _ _ _ q1 (s12.trans s3) P3 (goes_k (W := W2.lk a o) h1 (by show ((a, o) :: W2.L).lookup a = _; rw [List.lookup_cons]; simp) h2 h3)
  · cases e2
    cases r2 with
    | dT h1 h2 h3 =>
      rename_i a xs
      refine .inr (.inr (.inr (.inr ⟨a, xs, rfl, ?_⟩)))
      cases hl : W2.L.lookup a with
      | some o => exact .inl ⟨o, by show lockH W2.L H2 a = _; unfold lockH; rw [hl, h2]; rfl, k _ _ _ _ _ q1 s12 P2 (goes_kt h1 hl h2 h3)⟩
      | none =>
        refine .inr ⟨(lock_at hl).trans h2, fun o => ?_⟩
        obtain ⟨s3, P3, e3⟩ := P2.lock o (.inl h1) h2 rfl hl
        rw [← e3]
        exact k _ _ _ _ _ q1 (s12.trans s3) P3 (goes_kt (W := W2.lk a o) h1 (by show ((a, o) :: W2.L).lookup a = _; rw [List.lookup_cons]; simp) h2 h3)
  · cases e2
    cases r2
    exact .inr (.inr (.inl ⟨_, rfl, k _ _ _ _ _ q1 s12 P2 (goes_s _)⟩))
  · cases e2⟩
end Q
namespace Q
open PySem L2 PySem.Spec PyProof.Rows
/-! ### range, enumerate, zip -/
def rngD (lo : Int) (n : Nat) : List D := (List.range n).map fun (i : Nat) => D.int (lo + (i : Int))
def iR1 (g : Ax) : Ix := fun E st Q => g E st fun rs st1 => opt (looks st1 rs) fun ds => match ds with
  | [.int j] => (-(2 ^ 62) ≤ j ∧ j < 2 ^ 62) ∧ Q (rngD 0 j.toNat) st1
  | _ => False
theorem goes_r {c : C0} {W : Wd} {H : Hp} (lo : Int) (n : Nat) : Goes c W H (L2.Itr lo n) (rngD lo n) := fun Z W2 st2 σ2 H2 P2 a2 => by
  refine ⟨fun i d e => ?_, fun i hi => by unfold rngD at hi; rw [List.length_map, List.length_range] at hi; exact hi⟩
  unfold rngD at e
  rw [List.getElem?_map] at e
  cases q : (List.range n)[i]? with
  | none => rw [q] at e; cases e
  | some j =>
    rw [q] at e
    cases e
    have hi := (List.getElem?_eq_some_iff.mp q).1
    rw [List.length_range] at hi
    rw [List.getElem?_range hi] at q
    cases q
    refine ⟨hi, ?_⟩
    rintro x H3 ⟨rfl, rfl⟩
    exact .inl ⟨rfl, .int _⟩
section
variable {X : Cx} {tg iter : Expr} {es : List Expr} {ga : Ax}
theorem tops_1 {φ F H} {vs : List V} {d : D} (h : Tops φ F H vs [d]) : ∃ v, vs = [v] ∧ Top φ F H v d := by
  cases h with
  | cons a t => cases t; exact ⟨_, rfl, a⟩
theorem tops_2 {φ F H} {vs : List V} {d e : D} (h : Tops φ F H vs [d, e]) : ∃ v u, vs = [v, u] ∧ Top φ F H v d ∧ Top φ F H u e := by
  cases h with
  | cons a t =>
    cases t with
    | cons b t => cases t; exact ⟨_, _, rfl, a, b⟩
theorem pxi_r1 (h : ∀ {t : TA}, PA X es t → PI X tg iter (iRng1 t)) (ha : PXA X es ga) : PXI X tg iter (iR1 ga) := fun c l => piOf (h (ha c l)) fun σ H R ⟨W, st, H1, Q0, hH, P, q, k⟩ => ⟨W, st, H1, _, hH, P, q, fun rs st1 vs W1 H2 q1 s1 P1 rvs => by
  obtain ⟨ds, e1, q1⟩ := opt_ex q1
  have t := P1.tops rvs e1
  split at q1
  · obtain ⟨v, rfl, t1⟩ := tops_1 t
    cases t1
    exact ⟨_, rfl, q1.1.1, q1.1.2, k _ _ _ _ _ q1.2 s1 P1 (goes_r _ _)⟩
  · exact q1.elim⟩
theorem lnone_of {c : C0} {W : Wd} {st : Ps} {σ : L2.St} {H : Hp} (P : Pre c W st σ H) {T : Addr} (h : lockH W.L H T = none) : H T = none ∧ W.L.lookup T = none := P.lnone' h
def zipD : List D → List D → List D
  | a :: as, b :: bs => .tup [a, b] :: zipD as bs
  | _, _ => []
theorem zipD_get : ∀ {i : Nat} {as bs : List D} {d : D}, (zipD as bs)[i]? = some d → ∃ x y, as[i]? = some x ∧ bs[i]? = some y ∧ d = .tup [x, y]
  | i, [], bs, d, e => by simp [zipD] at e
  | i, a :: as, [], d, e => by simp [zipD] at e
  | 0, a :: as, b :: bs, d, e => by
    have : D.tup [a, b] = d := by simpa [zipD] using e
    exact ⟨a, b, rfl, rfl, this.symm⟩
  | i + 1, a :: as, b :: bs, d, e => by
    obtain ⟨x, y, h1, h2, h3⟩ := zipD_get (i := i) (as := as) (bs := bs) (d := d) (by simpa [zipD] using e)
    exact ⟨x, y, by simpa using h1, by simpa using h2, h3⟩
theorem zipD_end : ∀ {i : Nat} {as bs : List D}, (zipD as bs).length ≤ i → as.length ≤ i ∨ bs.length ≤ i
  | i, [], bs, h => .inl (Nat.zero_le _)
  | i, a :: as, [], h => .inr (Nat.zero_le _)
  | 0, a :: as, b :: bs, h => by simp [zipD] at h
  | i + 1, a :: as, b :: bs, h => by
    have := zipD_end (i := i) (as := as) (bs := bs) (by simpa [zipD] using h)
    simpa using this
def iZp (g : Ax) : Ix := fun E st Q => g E st fun rs st1 => opt (frzs st1 rs) fun q => match q.1 with
  | [.lst as, .lst bs] => Q (zipD as bs) q.2
  | [.tup as, .tup bs] => Q (zipD as bs) q.2
  | _ => False
theorem pxi_zp (h : ∀ {t : TA}, PA X es t → PI X tg iter (RZ.iZipA X.K t)) (ha : PXA X es ga) : PXI X tg iter (iZp ga) := fun c l => piOf (h (ha c l)) fun σ H R ⟨W, st, H1, Q0, hH, P, q, k⟩ => ⟨W, st, H1, _, hH, P, q, fun rs st1 vs W1 H2 q1 s1 P1 rvs => by
  obtain ⟨⟨ds, st2⟩, e1, q1⟩ := opt_ex q1
  obtain ⟨W2, s2, P2, r2, eL⟩ := frzs_ok P1 e1 rvs
  rw [← eL]
  dsimp only at q1 r2 P2
  split at q1
  · cases r2 with
    | cons r t =>
      cases t with
      | cons r' t =>
        cases t
        cases r with
        | lst h1 h2 h3 =>
          cases r' with
          | lst g1 g2 g3 =>
            refine ⟨_, _, _, _, rfl, .inl ⟨SqL.of (P2.nol h2 rfl), SqL.of (P2.nol g2 rfl), k _ _ _ _ _ q1 (s1.trans s2) P2 fun Z W3 st3 σ3 H3 P3 a3 => ?_⟩⟩
            have h4 := SqL.of (K := X.K) (P3.nol (a3.fut.keep _ _ h1 h2) rfl)
            have g4 := SqL.of (K := X.K) (P3.nol (a3.fut.keep _ _ g1 g2) rfl)
            refine ⟨fun i d e => ?_, fun i hi => ⟨_, _, h4, g4, by rw [h3.length, g3.length]; exact zipD_end hi⟩⟩
            obtain ⟨x, y, ex, ey, rfl⟩ := zipD_get e
            obtain ⟨v, ev, rv⟩ := (h3.fut a3.fut).get ex
            obtain ⟨u, eu, ru⟩ := (g3.fut a3.fut).get ey
            refine ⟨⟨_, _, v, u, h4, g4, ev, eu⟩, ?_⟩
            rintro z H5 ⟨T, z1, z2, rfl, hT, rfl, hz1, hz2⟩
            have e1 := hz1 _ h4
            have e2 := hz2 _ g4
            rw [ev] at e1
            rw [eu] at e2
            cases e1
            cases e2
            obtain ⟨t1, t2⟩ := lnone_of P3 hT
            exact .inr ⟨T, _, _, rfl, t1, t2, rfl, rfl, .cons rv (.cons ru .nil)⟩
  · cases r2 with
    | cons r t =>
      cases t with
      | cons r' t =>
        cases t
        cases r with
        | tup h2 h3 =>
          cases r' with
          | tup g2 g3 =>
            refine ⟨_, _, _, _, rfl, .inr ⟨SqT.of (P2.nol h2 rfl), SqT.of (P2.nol g2 rfl), k _ _ _ _ _ q1 (s1.trans s2) P2 fun Z W3 st3 σ3 H3 P3 a3 => ?_⟩⟩
            have h4 := SqT.of (K := X.K) (P3.nol (a3.fut.tups _ _ h2) rfl)
            have g4 := SqT.of (K := X.K) (P3.nol (a3.fut.tups _ _ g2) rfl)
            refine ⟨fun i d e => ?_, fun i hi => ⟨_, _, h4, g4, by rw [h3.length, g3.length]; exact zipD_end hi⟩⟩
            obtain ⟨x, y, ex, ey, rfl⟩ := zipD_get e
            obtain ⟨v, ev, rv⟩ := (h3.fut a3.fut).get ex
            obtain ⟨u, eu, ru⟩ := (g3.fut a3.fut).get ey
            refine ⟨⟨_, _, v, u, h4, g4, ev, eu⟩, ?_⟩
            rintro z H5 ⟨T, z1, z2, rfl, hT, rfl, hz1, hz2⟩
            have e1 := hz1 _ h4
            have e2 := hz2 _ g4
            rw [ev] at e1
            rw [eu] at e2
            cases e1
            cases e2
            obtain ⟨t1, t2⟩ := lnone_of P3 hT
            exact .inr ⟨T, _, _, rfl, t1, t2, rfl, rfl, .cons rv (.cons ru .nil)⟩
  · exact q1.elim⟩
end
/-! ### comprehensions -/
def wipeO (ρ : List O) : List Nat → List O
  | [] => ρ
  | v :: vs => (wipeO ρ vs).set v .un
theorem wipeO_length (ρ : List O) : ∀ vs : List Nat, (wipeO ρ vs).length = ρ.length
  | [] => rfl
  | v :: vs => by unfold wipeO; rw [List.length_set, wipeO_length ρ vs]
theorem wipeO_get {ρ : List O} {i : Nat} {o : O} : ∀ {vs : List Nat}, (wipeO ρ vs)[i]? = some o → o = .un ∨ (ρ[i]? = some o ∧ i ∉ vs)
  | [], h => .inr ⟨h, List.not_mem_nil⟩
  | v :: vs, h => by
    unfold wipeO at h
    by_cases e : i = v
    · subst e
      rw [List.getElem?_set, if_pos rfl] at h
      split at h
      · cases h; exact .inl rfl
      · cases h
    · rw [List.getElem?_set_ne (Ne.symm e)] at h
      rcases wipeO_get h with z | ⟨z1, z2⟩
      · exact .inl z
      · exact .inr ⟨z1, fun y => (List.mem_cons.mp y).elim e z2⟩
theorem wipe_get {σ : L2.St} {i : Nat} : ∀ {vs : List Nat}, i ∉ vs → (wipe σ vs)[i]? = σ[i]?
  | [], _ => rfl
  | v :: vs, h => by
    rw [List.mem_cons, not_or] at h
    unfold wipe
    rw [List.getElem?_set_ne (Ne.symm h.1), wipe_get h.2]
abbrev Ps.wp (st : Ps) (vs : List Nat) : Ps := { st with ρ := wipeO st.ρ vs }
theorem Pre.wp {c c' : C0} {W : Wd} {st : Ps} {σ σ' : L2.St} {H : Hp} (P : Pre c W st σ H) {vs : List Nat} (e : wipe σ' vs = wipe σ vs) (h1 : c'.rw = c.rw) (h2 : c'.W0 = c.W0) (h3 : c'.H0 = c.H0) (h4 : ∀ a, c'.R a → c.R a) : Pre c' W (st.wp vs) σ' H := by
  have hg : ∀ i, i ∉ vs → σ'[i]? = σ[i]? := fun i n => by rw [← wipe_get (σ := σ') n, e, wipe_get n]
  have hlen : σ'.length = σ.length := by rw [← wipe_length σ' vs, e, wipe_length]
  have low : ∀ {i a}, slotOwns (wipeO st.ρ vs) σ' i a → slotOwns st.ρ σ i a := fun {i a} ⟨o, z1, z2, z3⟩ => by
    rcases wipeO_get z1 with rfl | ⟨y1, y2⟩
    · cases z2
    · exact ⟨o, y1, z2, by rw [← hg i y2]; exact z3⟩
  refine ⟨by rw [h1]; exact P.hrw, by rw [h1, h2, h3]; exact P.step, by rw [h2, h3]; exact P.new, by rw [h1]; exact P.base, by show (wipeO st.ρ vs).length = _; rw [wipeO_length, P.slen, hlen], fun i o z => ?_, fun i a z => by rw [h3]; exact P.sown i a (low z), fun i j a z y => P.sapart i j a (low z) (low y), fun a z => ?_, by rw [h1]; exact P.hvw, by rw [h2, h3]; exact P.own0⟩
  · rcases wipeO_get z with rfl | ⟨y1, y2⟩
    · exact trivial
    · rw [hg i y2]
      exact P.slot i o y1
  · obtain ⟨k1, k2, k3, k4⟩ := P.rsv a (h4 a z)
    exact ⟨k1, k2, k3, fun i y => k4 i (low y)⟩
/-- a reserved thing is changed -/
theorem Pre.mutR {c : C0} {W : Wd} {st : Ps} {σ : L2.St} {H : Hp} (P : Pre c W st σ H) {a : Addr} {u u' : HO} (hR : c.R a) (h0 : c.H0 a = none) (hu : H a = some u) (hm : mutO u = true) : Pre c W st σ (upd H a u') ∧ Fut W.φ W.F H W.φ W.F (upd H a u') := by
  obtain ⟨k1, k2, _, k4⟩ := P.rsv a hR
  have f := fut_mut W (u' := u') k1 hu hm
  have ne : ∀ {b : Addr} {o : HO}, c.H0 b = some o → b ≠ a := fun e z => by rw [z, h0] at e; cases e
  refine ⟨⟨P.hrw, ⟨P.step.cells, P.step.sub, fun b ob e n => by rw [upd_ne (ne e)]; exact P.step.keep b ob e n, fun b xs e => by rw [upd_ne (ne e)]; exact P.step.tups b xs e, fun b e => upd_dom (P.step.dom b e), P.step.ownNew, P.step.locks, P.step.ownOld⟩, P.new, ⟨fun b hb => ?_, P.base.len, fun n b x w q1 q2 q3 => ?_, P.base.apart, P.base.ownF, P.base.lN, fun b ob e => ?_⟩, P.slen, fun j x e => ?_, P.sown, P.sapart, fun b hb => ?_, P.hvw, P.own0⟩, f⟩
  · obtain ⟨w, q⟩ := P.base.fdom b hb
    exact ⟨w, f.keep b w hb q⟩
  · refine (P.base.cell n b x w q1 q2 q3).fut f fun y hy => ?_
    rw [upd_ne]
    intro z
    subst z
    exact k2 ⟨w, List.mem_of_getElem? q3, hy⟩
  · obtain ⟨q1, w, q2, q3⟩ := P.base.lF b ob e
    refine ⟨q1, w, ?_, q3⟩
    rw [upd_ne (fun z => by subst z; exact q1.elim k1 fun y => k2 y.2)]
    exact q2
  · refine (P.slot j x e).fut f fun b e1 e2 => ?_
    rw [upd_ne]
    intro z
    subst z
    exact k4 j ⟨x, e, e2, join_ref e1⟩
  · obtain ⟨q1, q2, ⟨w, q3⟩, q4⟩ := P.rsv b hb
    refine ⟨q1, q2, ?_, q4⟩
    by_cases z : b = a
    · rw [z]; exact ⟨_, upd_same⟩
    · exact ⟨w, by rw [upd_ne z]; exact q3⟩
abbrev E0k : EK := fun _ _ _ => False
/-- inside a comprehension: no error leaves it, the new list is reserved -/
def C0.blk (c : C0) (D : Addr) : C0 := { c with E := E0k, R := fun b => c.R b ∨ b = D }
theorem lk_blk {X : Cx} (c : C0) (D : Addr) : Lk X (c.blk D) := Takes.imp takes0 fun cls d σ H ⟨W, st, H1, C, fs, _, _, _, _, z⟩ => z.elim
def PXTs (X : Cx) (ifs : List Expr) (f : Tx) : Prop := ∀ c, Lk X c → PTs X ifs (tXT c f)
def xYes : Tx := fun _ st Q => Q true st
theorem pxts_one {X : Cx} {e : Expr} {t : Tx} (h : PXT X e t) : PXTs X [e] t := fun c l => pts_one (h c l)
def lcW (tg : Tg) (tt : Tx) (f : Ex) (vs : List Nat) (Q : O → Ps → Prop) : List D → List D → Ps → Prop
  | [], acc, st => Q (.lst acc) (st.wp vs)
  | d :: ds, acc, st => tg d (st.wp vs) fun st2 => tt E0k st2 fun b st3 => if b = true then f E0k st3 fun r st4 => opt (frz st4 r) fun q => acc.length < sizeLine ∧ lcW tg tt f vs Q ds (acc ++ [q.1]) q.2 else lcW tg tt f vs Q ds acc st3
def xLc (fi : Ix) (tg : Tg) (tt : Tx) (f : Ex) (vs : List Nat) : Ox := fun E st Q => fi E st fun ds st1 => lcW tg tt f vs Q ds [] st1
theorem RepL.snoc {φ F H} {v : V} {d : D} : ∀ {vs : List V} {ds : List D}, RepL φ F H vs ds → Rep φ F H v d → RepL φ F H (vs ++ [v]) (ds ++ [d])
  | _, _, .nil, h => .cons h .nil
  | _, _, .cons a t, h => .cons a (t.snoc h)
theorem wipeO_un {ρ : List O} {i : Nat} {o : O} : ∀ {vs : List Nat}, (wipeO ρ vs)[i]? = some o → i ∈ vs → o = .un := fun h m => (wipeO_get h).elim id fun z => absurd m z.2
theorem wipe_in {σ : L2.St} {vs : List Nat} : ∀ {us : List Nat}, (∀ i ∈ us, i ∈ vs) → wipe (wipe σ us) vs = wipe σ vs
  | [], _ => rfl
  | u :: us, h => by
    show wipe ((wipe σ us).set u none) vs = _
    rw [set_wipe (h u List.mem_cons_self)]
    exact wipe_in fun i hi => h i (List.mem_cons_of_mem _ hi)
theorem Pre.ctx {c c' : C0} {W : Wd} {st : Ps} {σ : L2.St} {H : Hp} (P : Pre c W st σ H) (h1 : c'.rw = c.rw) (h2 : c'.W0 = c.W0) (h3 : c'.H0 = c.H0) (h4 : ∀ a, c'.R a → c.R a) : Pre c' W st σ H := P.wp (vs := []) rfl h1 h2 h3 h4
theorem Pre.sig {c : C0} {W : Wd} {st : Ps} {σ σ' : L2.St} {H : Hp} {vs : List Nat} (P : Pre c W (st.wp vs) σ H) (e : wipe σ' vs = wipe σ vs) : Pre c W (st.wp vs) σ' H := by
  have hg : ∀ i, i ∉ vs → σ'[i]? = σ[i]? := fun i n => by rw [← wipe_get (σ := σ') n, e, wipe_get n]
  have hlen : σ'.length = σ.length := by rw [← wipe_length σ' vs, e, wipe_length]
  have low : ∀ {i a}, slotOwns (wipeO st.ρ vs) σ' i a → slotOwns (wipeO st.ρ vs) σ i a := fun {i a} ⟨o, z1, z2, z3⟩ => by
    by_cases m : i ∈ vs
    · rw [wipeO_un z1 m] at z2
      cases z2
    · exact ⟨o, z1, z2, by rw [← hg i m]; exact z3⟩
  refine ⟨P.hrw, P.step, P.new, P.base, by rw [hlen]; exact P.slen, fun i o z => ?_, fun i a z => P.sown i a (low z), fun i j a z y => P.sapart i j a (low z) (low y), fun a z => ?_, P.hvw, P.own0⟩
  · by_cases m : i ∈ vs
    · rw [wipeO_un z m]
      exact trivial
    · rw [hg i m]
      exact P.slot i o z
  · obtain ⟨k1, k2, k3, k4⟩ := P.rsv a z
    exact ⟨k1, k2, k3, fun i y => k4 i (low y)⟩
theorem Step.updN {rw : Bool} {W W' : Wd} {H H' : Hp} {D : Addr} {o : HO} (s : Step rw W H W' H') (h : H D = none) : Step rw W H W' (upd H' D o) :=
  ⟨s.cells, s.sub, fun a u e n => by rw [upd_ne (ne_of_none e h)]; exact s.keep a u e n, fun a xs e => by rw [upd_ne (ne_of_none e h)]; exact s.tups a xs e, fun a e => upd_dom (s.dom a e), s.ownNew, s.locks, s.ownOld⟩
def gAny (c : C0) (tg : Tg) (is : List Nat) : TG := fun v σ H Q => ∃ D, tXG (c.blk D) tg is v σ H Q
def tAny (c : C0) (tt : Tx) : TT := fun σ H Q => ∃ D, tXT (c.blk D) tt σ H Q
def eAny (c : C0) (f : Ex) : TE := fun σ H Q => ∃ D, tX (c.blk D) f σ H Q
theorem blk_at {c : C0} {D : Addr} {W W' : Wd} {st : Ps} {σ : L2.St} {H H' : Hp} {o : HO} (P : Pre (c.blk D) W st σ H) (s : Step c.rw W H W' H') (h : H D = some o) : H' D = some o := s.keep D o h fun _ => (P.rsv D (.inr rfl)).2.1
theorem lc_go {c : C0} {fi : Ix} {tg : Tg} {tt : Tx} {f : Ex} {vs is : List Nat} {σ : L2.St} {H : Hp} {Q : VK} (hv : ∀ i ∈ is, i ∈ vs) (h : tO c (xLc fi tg tt f vs) σ H Q) : tLc (tXI c fi) (gAny c tg is) (tAny c tt) (eAny c f) vs σ H Q := by
  obtain ⟨W, st, H1, Q0, hH, P, q, k⟩ := h
  refine ⟨W, st, H1, _, hH, P, q, fun ds st1 W1 H2 J q1 s1 P1 go => fun D hD => ?_⟩
  obtain ⟨d1, d2⟩ := P1.lnone' hD
  obtain ⟨sD, PD, f1, f2, f3, f4, f5⟩ := P1.fresh (o := .lst []) d1
  have PB : Pre (c.blk D) W1 (st1.wp vs) σ (upd H2 D (.lst [])) := (PD.res ⟨f1, f2, ⟨_, upd_same⟩, f4⟩).wp rfl rfl rfl rfl fun _ z => z
  refine ⟨fun i m Hh => m = ds.length - i ∧ i ≤ ds.length ∧ ∃ W2 st2 H3 acc xs, Hh = lockH W2.L H3 ∧ Pre (c.blk D) W2 (st2.wp vs) σ H3 ∧ Step c.rw W1 H2 W2 H3 ∧ H3 D = some (.lst xs) ∧ RepL W2.φ W2.F H3 xs acc ∧ lcW tg tt f vs Q0 (ds.drop i) acc st2,
    ⟨ds.length, by simp, Nat.zero_le _, W1, st1, _, [], [], lock_upd d2, PB, sD, upd_same, .nil, q1⟩, ?_⟩
  rintro i m Hh ⟨rfl, hi, W2, st2, H3, acc, xs, rfl, P2, s2, hx, rx, q2⟩
  obtain ⟨g1, g2⟩ := go (c.blk D).R W2 _ σ H3 (P2.ctx rfl rfl rfl fun _ z => z) (P1.aft s2)
  by_cases hlt : i < ds.length
  · obtain ⟨g3, g4⟩ := g1 i ds[i] (List.getElem?_eq_getElem hlt)
    rw [List.drop_eq_getElem_cons hlt] at q2
    refine .inr ⟨g3, fun H' => i + 1 ≤ ds.length ∧ ∃ W2 st2 H3 acc xs, H' = lockH W2.L H3 ∧ Pre (c.blk D) W2 (st2.wp vs) σ H3 ∧ Step c.rw W1 H2 W2 H3 ∧ H3 D = some (.lst xs) ∧ RepL W2.φ W2.F H3 xs acc ∧ lcW tg tt f vs Q0 (ds.drop (i + 1)) acc st2, fun H' z => ⟨ds.length - (i + 1), by omega, rfl, z⟩, fun x H' y => ?_⟩
    obtain ⟨H4, rfl, s4, P4, r4⟩ := YD.ok P2 (g4 x H' y)
    have x4 := blk_at P2 s4 hx
    refine ⟨D, W2, st2.wp vs, H4, _, _, rfl, P4.sig (wipe_in fun _ z => z), r4, q2, fun st5 σ5 q5 P5 w5 => ?_⟩
    have e5 : wipe σ5 vs = wipe σ vs := (w5 vs hv).trans (wipe_in fun _ z => z)
    refine ⟨e5, D, W2, st5, H4, _, rfl, P5, q5, fun b st6 W6 H6 q6 s6 P6 => ?_⟩
    have x6 := blk_at P5 s6 x4
    have r6 : RepL W6.φ W6.F H6 xs acc := (rx.fut (P2.fut s4)).fut (P5.fut s6)
    cases b with
    | false => exact iteF ⟨hlt, W6, st6, H6, acc, xs, rfl, P6.wp e5.symm rfl rfl rfl fun _ z => z, (s2.trans s4).trans s6, x6, r6, q6⟩
    | true =>
      refine iteT ⟨D, W6, st6, H6, _, rfl, P6, q6, fun r st7 v W7 H7 q7 s7 P7 rv => ?_⟩
      obtain ⟨⟨y, st8⟩, e8, hl, q8⟩ := opt_ex q7
      obtain ⟨W8, s8, P8, r8, eL⟩ := frz_ok P7 e8 rv
      have x7 := blk_at P6 s7 x6
      have r7 : RepL W8.φ W8.F H7 xs acc := (r6.fut (P6.fut s7)).fut (P7.fut s8)
      obtain ⟨P9, f9⟩ := P8.mutR (u' := .lst (xs ++ [v])) (.inr rfl) f3 x7 rfl
      refine ⟨xs, P7.nol x7 rfl, by rw [rx.length]; exact hl, hlt, W8, st8, upd H7 D (.lst (xs ++ [v])), acc ++ [y], xs ++ [v], ?_, P9.wp e5.symm rfl rfl rfl fun _ z => z, ((((s2.trans s4).trans s6).trans s7).trans s8).updN d1, upd_same, (r7.fut f9).snoc (r8.fut f9), q8⟩
      rw [← eL]
      exact lock_upd (P8.lown (P8.rsv D (.inr rfl)).1 (P8.rsv D (.inr rfl)).2.1)
  · have e : i = ds.length := by omega
    rw [e, List.drop_length] at q2
    obtain ⟨k1, k2, k3, k4⟩ := P2.rsv D (.inr rfl)
    exact .inl ⟨g2 i (by omega), k _ _ _ _ _ q2 (s1.trans s2) (P2.ctx rfl rfl rfl fun _ z => .inl z) ⟨D, rfl, ⟨xs, hx, rx⟩, k1, k2, f3, k4, f5⟩⟩
theorem PG.orr {X : Cx} {e : Expr} {α : Type} {t : α → TG} (h : ∀ x, PG X e (t x)) : PG X e (fun v σ H Q => ∃ x, t x v σ H Q) := ⟨fun pins s σ H v u Q I r ⟨x, q⟩ => (h x).run pins s σ H v u Q I r q⟩
theorem PTs.orr {X : Cx} {es : List Expr} {α : Type} {t : α → TT} (h : ∀ x, PTs X es (t x)) : PTs X es (fun σ H Q => ∃ x, t x σ H Q) := ⟨fun pins s σ H Q I ⟨x, q⟩ => (h x).run pins s σ H Q I q⟩
theorem PE.orr {X : Cx} {e : Expr} {α : Type} {t : α → TE} (h : ∀ x, PE X e (t x)) : PE X e (fun σ H Q => ∃ x, t x σ H Q) := ⟨fun pins s σ H Q I ⟨x, q⟩ => (h x).run pins s σ H Q I q⟩
theorem pg_any {X : Cx} {e : Expr} {tg : Tg} {is : List Nat} (c : C0) (h : PXG X e tg is) : PG X e (gAny c tg is) := PG.orr fun D => h _ (lk_blk c D)
theorem pts_any {X : Cx} {es : List Expr} {tt : Tx} (c : C0) (h : PXTs X es tt) : PTs X es (tAny c tt) := PTs.orr fun D => h _ (lk_blk c D)
theorem pe_any {X : Cx} {e : Expr} {f : Ex} (c : C0) (h : PX X e f) : PE X e (eAny c f) := PE.orr fun D => h _ (lk_blk c D)
theorem po_lc {X : Cx} {elt tge iter : Expr} {ifs : List Expr} {scope : Scope} {own : List (Str × Nat)} {pos : Pos} {fi : Ix} {tg : Tg} {is : List Nat} {tt : Tx} {f : Ex} (hc : X.calm = true) (hN : X.N.Nodup) (hi : PXI X tge iter fi) (ok : BlkOk X.N X.env.scope scope own) (hv : ∀ i ∈ is, i ∈ own.map (·.2))
    (hg : ∀ (s : Shared) (H : Hp) (C : Addr) (cl : List (Str × Addr)) (fp : List Addr), PXG (X.blk s H scope (compEnvC scope cl C X.env) fp) tge tg is) (ht : ∀ (s : Shared) (H : Hp) (C : Addr) (cl : List (Str × Addr)) (fp : List Addr), PXTs (X.blk s H scope (compEnvC scope cl C X.env) fp) ifs tt)
    (he : ∀ (s : Shared) (H : Hp) (C : Addr) (cl : List (Str × Addr)) (fp : List Addr), PX (X.blk s H scope (compEnvC scope cl C X.env) fp) elt f) (hs : ∀ x, foldedSetIterable iter X.env x = pure x := by intro _; rfl) :
    PO X (.ListComp elt [⟨tge, iter, ifs, 0⟩] scope pos) (xLc fi tg tt f (own.map (·.2))) := fun c l =>
  peOf (pe_lc hc hN (hi c l) ok (fun s H C cl fp => pg_any c (hg s H C cl fp)) (fun s H C cl fp => pts_any c (ht s H C cl fp)) (fun s H C cl fp => pe_any c (he s H C cl fp)) hs) fun σ H Q h => lc_go hv h
end Q
namespace Q
open PySem L2 PySem.Spec PyProof.Rows
section
variable {X : Cx}
/-! ### len -/
theorem call_lenR : CallR X (.builtin "len") (fun xs H Q => ∃ a kvs, xs = [.ref a] ∧ Rd H a (.dK kvs) ∧ Q (.int (kvs.length : Nat)) H) := by
  intro pins s σ H xs us Q I r h
  obtain ⟨a, kvs, rfl, ha, q⟩ := h
  obtain ⟨u, rfl, ru⟩ := vals1 r
  cases ru
  exact d_len I ha fun t s' I' => ⟨.int kvs.length, H, I', ⟨t, rfl⟩, q⟩
theorem call_lenRT : CallR X (.builtin "len") (fun xs H Q => ∃ a kvs, xs = [.ref a] ∧ Rd H a (.dT kvs) ∧ Q (.int (kvs.length : Nat)) H) := by
  intro pins s σ H xs us Q I r h
  obtain ⟨a, kvs, rfl, ha, q⟩ := h
  obtain ⟨u, rfl, ru⟩ := vals1 r
  cases ru
  obtain ⟨z, hd, ys, rel, dd⟩ := dt_rd I.hok ha
  have hl : kvs.length = ys.length := Paired.length rel
  refine call_len_dictH hd dd (by rw [← hl]; rw [sizeLine_eq] at z; omega) ?_
  rw [← hl]
  exact ⟨.int ((kvs.length : Nat) : Int), H, I.tok _, ⟨_, rfl⟩, q⟩
def rLenA (K : PySem.W.Frag) : List V → Hp → VK → Prop := fun xs H Q => (∃ x n, xs = [x] ∧ LenV K x H n ∧ Q (.int (n : Nat)) H) ∨ (∃ a kvs, xs = [.ref a] ∧ Rd H a (.dK kvs) ∧ Q (.int (kvs.length : Nat)) H) ∨ ∃ a kvs, xs = [.ref a] ∧ Rd H a (.dT kvs) ∧ Q (.int (kvs.length : Nat)) H
theorem cLen (K : PySem.W.Frag) (h : X.K = K := by rfl) : CallR X (.builtin "len") (rLenA K) := by
  subst h
  exact call_len.or (call_lenR.or call_lenRT)
def lenG : Gc := fun ds J => match ds with
  | [.str s] => s.length ≤ sizeLine ∧ J (.d (.int s.length))
  | [.lst xs] => J (.d (.int xs.length))
  | [.tup xs] => J (.d (.int xs.length))
  | [.dK xs] => J (.d (.int xs.length))
  | [.dT xs] => J (.d (.int xs.length))
  | [.scr xs] => J (.d (.int xs.length))
  | _ => False
theorem rd_lock {c : C0} {W : Wd} {st : Ps} {σ : L2.St} {H : Hp} (P : Pre c W st σ H) {a : Addr} {u : HO} (h : Rd H a u) (hd : dictO u = false) : Rd (lockH W.L H) a u := by
  rcases h with h | ⟨o, h⟩
  · exact .inl (P.nol h hd)
  · exact .inr ⟨o, P.nol h rfl⟩
theorem g_len (K : PySem.W.Frag) : CallG (rLenA K) lenG := fun c W st σ H vs ds Q J P t g k => by
  unfold lenG at g
  split at g
  · obtain ⟨v, rfl, t1⟩ := tops_1 t
    cases t1
    exact .inl ⟨_, _, rfl, ⟨g.1, rfl⟩, (k _ g.2).d P (.int _)⟩
  · obtain ⟨v, rfl, t1⟩ := tops_1 t
    cases t1 with
    | lst h1 r1 => exact .inl ⟨_, _, rfl, .inl ⟨_, SqL.of (P.nol h1 rfl), r1.length.symm⟩, (k _ g).d P (.int _)⟩
  · obtain ⟨v, rfl, t1⟩ := tops_1 t
    cases t1 with
    | tup h1 r1 => exact .inl ⟨_, _, rfl, .inr ⟨_, SqT.of (P.nol h1 rfl), r1.length.symm⟩, (k _ g).d P (.int _)⟩
  · obtain ⟨v, rfl, t1⟩ := tops_1 t
    cases t1 with
    | dK h1 r1 => exact .inr (.inl ⟨_, _, rfl, lock_rd h1, by rw [r1.length]; exact (k _ g).d P (.int _)⟩)
  · obtain ⟨v, rfl, t1⟩ := tops_1 t
    cases t1 with
    | dT h1 r1 => exact .inr (.inr ⟨_, _, rfl, lock_rd h1, by rw [r1.length]; exact (k _ g).d P (.int _)⟩)
  · obtain ⟨v, rfl, t1⟩ := tops_1 t
    cases t1 with
    | scr h1 => exact .inl ⟨_, _, rfl, .inl ⟨_, .inl (rd_lock P h1 rfl), by rw [List.length_map]⟩, (k _ g).d P (.int _)⟩
  · exact g.elim
/-! ### list(..), tuple(..) of a list or a tuple -/
def listG : Gc := fun ds J => match ds with
  | [.lst xs] => J (.lst xs)
  | [.tup xs] => J (.lst xs)
  | _ => False
/-! ### all, any, sum -/
/-! ### int(..), abs(..) -/
def intG : Gc := fun ds J => match ds with
  | [.int i] => J (.d (.int i))
  | [.bl b] => J (.d (.int (if b then 1 else 0)))
  | _ => False
/-! ### a[i] -/
def ixD : D → D → Option O
  | .lst xs, .int i => (atI xs i).map O.d
  | .tup xs, .int i => (atI xs i).map O.d
  | .str z, .int i => if z.length ≤ sizeLine then (atI z.cps.toList i).map fun c => .d (.str ⟨#[c]⟩) else none
  | _, _ => none
def rIxA (K : PySem.W.Frag) : V → V → Hp → VK → Prop := fun x y H Q => rIxL K x y H Q ∨ rIxT K x y H Q ∨ rIxS x y H Q
theorem ixA (K : PySem.W.Frag) (h : X.K = K := by rfl) : IxR X (rIxA K) := by
  subst h
  exact ix_list.or (ix_tup.or ix_str)
theorem RepL.at {φ F H} {vs : List V} {ds : List D} {i : Int} {d : D} (r : RepL φ F H vs ds) (e : atI ds i = some d) : ∃ v, atI vs i = some v ∧ Rep φ F H v d := by
  unfold atI at e ⊢
  rw [r.length]
  cases q : ixN ds.length i with
  | none => rw [q] at e; cases e
  | some j =>
    rw [q] at e
    exact r.get e
theorem g_ix (K : PySem.W.Frag) : OpG (rIxA K) ixD := fun c W st σ H v1 v2 d1 d2 o Q P t1 t2 e h => by
  unfold ixD at e
  split at e
  · cases t2
    cases t1 with
    | lst h1 r1 =>
      obtain ⟨d, e1, rfl⟩ := Option.map_eq_some_iff.mp e
      obtain ⟨v, e2, r2⟩ := r1.at e1
      exact .inl ⟨_, _, _, v, rfl, rfl, SqL.of (P.nol h1 rfl), e2, h.d P r2⟩
  · cases t2
    cases t1 with
    | tup h1 r1 =>
      obtain ⟨d, e1, rfl⟩ := Option.map_eq_some_iff.mp e
      obtain ⟨v, e2, r2⟩ := r1.at e1
      exact .inr (.inl ⟨_, _, _, v, rfl, rfl, SqT.of (P.nol h1 rfl), e2, h.d P r2⟩)
  · cases t1
    cases t2
    split at e
    · rename_i hl
      obtain ⟨d, e1, rfl⟩ := Option.map_eq_some_iff.mp e
      exact .inr (.inr ⟨_, _, d, rfl, rfl, hl, e1, h.d P (.str _)⟩)
    · cases e
  · cases e
/-! ### a[lo:hi] -/
abbrev Px := EK → Ps → (Option Int → Ps → Prop) → Prop
theorem RepL.drop {φ F H} : ∀ (n : Nat) {vs : List V} {ds : List D}, RepL φ F H vs ds → RepL φ F H (vs.drop n) (ds.drop n)
  | 0, _, _, h => h
  | n + 1, _, _, .nil => .nil
  | n + 1, _, _, .cons _ t => t.drop n
theorem RepL.take {φ F H} : ∀ (n : Nat) {vs : List V} {ds : List D}, RepL φ F H vs ds → RepL φ F H (vs.take n) (ds.take n)
  | 0, _, _, h => .nil
  | n + 1, _, _, .nil => .nil
  | n + 1, _, _, .cons h t => .cons h (t.take n)
/-! ### a chain of two comparisons -/
def xCh (g g' : D → D → Option O) (f1 f2 f3 : Ex) : Ox := fun E st Q => f1 E st fun r1 st1 => f2 E st1 fun r2 st2 => opt (look st2 r1) fun d1 => opt (look st2 r2) fun d2 => opt (g d1 d2) fun o => opt (isB o) fun b => if b = true then f3 E st2 fun r3 st3 => opt (look st3 r2) fun d2' => opt (look st3 r3) fun d3 => opt (g' d2' d3) fun o' => Q o' st3 else Q (.d (.bl false)) st2
end
end Q
namespace Q
open PySem L2 PySem.Spec PyProof.Rows
section
variable {X : Cx}
/-! ### isinstance -/
/-- a class whose instances isinstance can be asked of -/
structure InsT (K : PySem.W.Frag) (C : Addr) : Prop where
  cl : Cls K C
  ha : PySem.W.findIn K (.ref C) "__class__" = some (some (.builtin "object.__class__"))
  hn : PySem.W.specialIn K (.builtin "object.__class__") "__get__" = some (some (.builtin "getset_descriptor.__get__"))
  ht : PySem.W.takesIn K (.builtin "object.__class__") = some true
  hm : PySem.W.mroIn K C (.type "object") = some true
def tyG (K : PySem.W.Frag) (d : D) (J : Value → Prop) : Prop := match d with
  | .non => J (.type "NoneType")
  | .bl _ => J (.type "bool")
  | .int _ => J (.type "int")
  | .str _ => J (.type "str")
  | .byt _ => J (.type "bytes")
  | .lst _ => J (.type "list")
  | .tup _ => J (.type "tuple")
  | .dK _ => J (.type "dict")
  | .ins C _ => InsT K C ∧ J (.ref C)
  | _ => False
def clsG : D → Option Value
  | .ty n => some (.type n)
  | .cls a => some (.ref a)
  | _ => none
def clssG : List D → Option (List Value)
  | [] => some []
  | d :: ds => match clsG d, clssG ds with
    | some u, some us => some (u :: us)
    | _, _ => none
def isiG (K : PySem.W.Frag) : Gc := fun ds J => match ds with
  | [x, .tup cs] => tyG K x fun t => opt (clssG cs) fun us => opt (PySem.W.kitAny K t us) fun b => J (.d (.bl b))
  | [x, c] => tyG K x fun t => opt (clsG c) fun u => opt (PySem.W.kitOne K t u) fun b => J (.d (.bl b))
  | _ => False
theorem cls_ok {φ F H} {v : V} {d : D} {u : Value} (t : Top φ F H v d) (e : clsG d = some u) : ClsV v u := by
  cases t with
  | ty n => cases e; exact .ty n
  | cls a => cases e; exact .own a
  | _ => cases e
theorem clss_ok {φ F H} : ∀ {vs : List V} {ds : List D} {us : List Value}, RepL φ F H vs ds → clssG ds = some us → Paired ClsV vs us
  | _, _, _, .nil, e => by cases e; exact .nil
  | _, _, _, .cons (d := d) (ds := ds) h t, e => by
    unfold clssG at e
    cases q1 : clsG d with
    | none => rw [q1] at e; cases e
    | some u =>
      cases q2 : clssG ds with
      | none => rw [q1, q2] at e; cases e
      | some us =>
        rw [q1, q2] at e
        cases e
        exact .cons (cls_ok h.top q1) (clss_ok t q2)
/-! ### fields -/
theorem RepF.lookup {φ F H} {f : Str} : ∀ {vs : List (Str × V)} {ds : List (Str × D)} {d : D}, RepF φ F H vs ds → ds.lookup f = some d → ∃ v, vs.lookup f = some v ∧ Rep φ F H v d
  | _, _, _, .nil, e => by cases e
  | _, _, _, .cons (k := k) h t, e => by
    rw [List.lookup_cons] at e ⊢
    cases q : f == k with
    | true => rw [q] at e; cases e; exact ⟨_, rfl, h⟩
    | false => rw [q] at e; exact t.lookup e
/-! ### d[k], k in d -/
def keyD : D → Option Key
  | .int i => some (.inl i)
  | .str s => some (.inr s)
  | _ => none
def keysD : List D → Option (List Key)
  | [] => some []
  | d :: ds => match keyD d, keysD ds with
    | some k, some ks => some (k :: ks)
    | _, _ => none
def valD {κ : Type} [DecidableEq κ] (kvs : List (κ × D)) (k : κ) : Option D := (kvs.find? fun kv => decide (kv.1 = k)).map (·.2)
def getD : D → D → Option (Option D)
  | .dK kvs, y => (keyD y).map fun k => valD kvs k
  | .dT kvs, .tup ys => (keysD ys).map fun k => valD kvs k
  | _, _ => none
theorem RepK.val {φ F H} {k : Key} : ∀ {vs : List (Key × V)} {ds : List (Key × D)}, RepK φ F H vs ds → (valV vs k).isSome = (valD ds k).isSome ∧ ∀ d, valD ds k = some d → ∃ v, valV vs k = some v ∧ Rep φ F H v d
  | _, _, .nil => ⟨rfl, fun d e => by cases e⟩
  | _, _, .cons (k := k') (v := v) (d := d) (vs := vs) (ds := ds) h t => by
    by_cases e : k' = k
    · have e1 : valV ((k', v) :: vs) k = some v := valV_pos e
      have e2 : valD ((k', d) :: ds) k = some d := by simp [valD, List.find?_cons, e]
      rw [e1, e2]
      exact ⟨rfl, fun d' z => by cases z; exact ⟨v, rfl, h⟩⟩
    · have e1 : valV ((k', v) :: vs) k = valV vs k := valV_neg e
      have e2 : valD ((k', d) :: ds) k = valD ds k := by simp [valD, List.find?_cons, e]
      rw [e1, e2]
      exact t.val
theorem RepT.val {φ F H} {k : List Key} : ∀ {vs : List (List Key × V)} {ds : List (List Key × D)}, RepT φ F H vs ds → (valV vs k).isSome = (valD ds k).isSome ∧ ∀ d, valD ds k = some d → ∃ v, valV vs k = some v ∧ Rep φ F H v d
  | _, _, .nil => ⟨rfl, fun d e => by cases e⟩
  | _, _, .cons (k := k') (v := v) (d := d) (vs := vs) (ds := ds) h t => by
    by_cases e : k' = k
    · have e1 : valV ((k', v) :: vs) k = some v := valV_pos e
      have e2 : valD ((k', d) :: ds) k = some d := by simp [valD, List.find?_cons, e]
      rw [e1, e2]
      exact ⟨rfl, fun d' z => by cases z; exact ⟨v, rfl, h⟩⟩
    · have e1 : valV ((k', v) :: vs) k = valV vs k := valV_neg e
      have e2 : valD ((k', d) :: ds) k = valD ds k := by simp [valD, List.find?_cons, e]
      rw [e1, e2]
      exact t.val
theorem key_rep {φ F H} {v : V} {d : D} {k : Key} (t : Top φ F H v d) (e : keyD d = some k) : v = kV k := by
  cases t with
  | int i => cases e; rfl
  | str s => cases e; rfl
  | _ => cases e
theorem keys_rep {φ F H} : ∀ {vs : List V} {ds : List D} {ks : List Key}, RepL φ F H vs ds → keysD ds = some ks → vs = ks.map kV
  | _, _, _, .nil, e => by cases e; rfl
  | _, _, _, .cons (d := d) (ds := ds) h t, e => by
    unfold keysD at e
    cases q1 : keyD d with
    | none => rw [q1] at e; cases e
    | some k =>
      cases q2 : keysD ds with
      | none => rw [q1, q2] at e; cases e
      | some ks =>
        rw [q1, q2] at e
        cases e
        rw [key_rep h.top q1, keys_rep t q2]
        rfl
/-! ### changing a slot's list or dict -/
def sApp (i : Nat) (f : Ex) : Sx := fun E K st => (∃ ys, st.ρ[i]? = some (.lst ys)) ∧ f E st fun r st1 => opt (frz st1 r) fun q => match q.2.ρ[i]? with
  | some (.lst xs) => xs.length < sizeLine ∧ K.nx { q.2 with ρ := q.2.ρ.set i (.lst (xs ++ [q.1])) }
  | _ => False
theorem Pre.own_lst {c : C0} {W : Wd} {st : Ps} {σ : L2.St} {H : Hp} (P : Pre c W st σ H) {i : Nat} {xs : List D} (h : st.ρ[i]? = some (.lst xs)) : ∃ a vs, σ[i]? = some (some (.ref a)) ∧ H a = some (.lst vs) ∧ RepL W.φ W.F H vs xs := by
  obtain ⟨a, e1, vs, e2, e3⟩ := P.slot i _ h
  exact ⟨a, vs, join_ref e1, e2, e3⟩
theorem pxs_app {e ee : Expr} {i : Nat} {f : Ex} {s : Stmt} (h : ∀ {t : TA}, PA X [e] t → PS X s (tDrop (tBM X.K "list" rAppend (tVar i) t))) (he : PXA X [e] (xCons f xNil)) : PXS X s (sApp i f) := fun c l => psOf (h (he c l)) fun D σ H ⟨W, st, H1, K, hH, P, ek, ⟨ys, hy⟩, q⟩ => by
  subst hH
  obtain ⟨a, vs, e1, e2, e3⟩ := P.own_lst hy
  refine ⟨_, e1, .inl ⟨rfl, vs, SqL.of (P.nol e2 rfl)⟩, W, st, H1, fun rs st1 => ∃ r, rs = [r] ∧ opt (frz st1 r) fun q => match q.2.ρ[i]? with
    | some (.lst xs) => xs.length < sizeLine ∧ K.nx { q.2 with ρ := q.2.ρ.set i (.lst (xs ++ [q.1])) }
    | _ => False, rfl, P, ?_, ?_⟩
  · show f c.E st fun r st1 => ∃ r', [r] = [r'] ∧ _
    simp only [List.cons.injEq, and_true, exists_eq_left']
    exact q
  · rintro rs st1 us W1 H2 ⟨r, rfl, q1⟩ s1 P1 rvs
    obtain ⟨⟨y, st2⟩, e4, q1⟩ := opt_ex q1
    cases rvs with
    | cons rv t =>
      cases t
      obtain ⟨W2, s2, P2, r2, eL⟩ := frz_ok P1 e4 rv
      dsimp only at q1 P2 r2
      split at q1
      · rename_i xs hxs
        obtain ⟨a', vs', f1, f2, f3⟩ := P2.own_lst hxs
        rw [e1] at f1
        cases f1
        refine ⟨_, _, _, rfl, rfl, P1.nol f2 rfl, by rw [f3.length]; exact q1.1, ?_⟩
        have so : slotOwns st2.ρ σ i a := ⟨_, hxs, rfl, e1⟩
        rw [← eL, lock_upd (P2.lown (P2.sown i a so).1 (P2.sown i a so).2.1)]
        refine ek.1 _ _ _ _ q1.2 (P2.mutate hxs rfl e1 rfl fun fu => ⟨_, upd_same, (f3.fut fu).snoc (r2.fut fu)⟩) ((P.aft (s1.trans s2)).trans ⟨?_, [], rfl⟩)
        exact fut_mut W2 (P2.sown i a so).1 f2 rfl
      · exact q1.elim
end
end Q
namespace Q
open PySem L2 PySem.Spec PyProof.Rows
theorem _root_.L2.Room.u65 {k : Nat} {A : Around} (r : Room k A) : A.units + 65 < cLine := by have := r.un; omega
section
variable {X : Cx}
/-! ### is None -/
/-! ### texts -/
theorem op_mulS : OpR X (binaryOp .Mult) (fun x y H Q => ∃ z i, x = .str z ∧ y = .int i ∧ MulOk z i ∧ Q (.str (Txt.mul z i)) H) := by
  intro pins s σ H x y v u Q I rx ry h
  obtain ⟨z, i, rfl, rfl, ok, q⟩ := h
  obtain ⟨t, rfl⟩ := rx
  obtain ⟨t', rfl⟩ := ry
  exact SB.mul ok fun t' k => ⟨.str _, H, I.tok k, ⟨_, rfl⟩, q⟩
instance (z : Str) (i : Int) : Decidable (MulOk z i) := by unfold MulOk; infer_instance
def mulSG : D → D → Option O
  | .str z, .int i => if MulOk z i then some (.d (.str (Txt.mul z i))) else none
  | _, _ => none
theorem g_mulS : OpG (fun x y H Q => ∃ z i, x = .str z ∧ y = .int i ∧ MulOk z i ∧ Q (.str (Txt.mul z i)) H) mulSG := fun c W st σ H v1 v2 d1 d2 o Q P t1 t2 e h => by
  unfold mulSG at e
  split at e
  · split at e
    · rename_i hk
      cases e; cases t1; cases t2
      exact ⟨_, _, rfl, rfl, hk, h.d P (.str _)⟩
    · cases e
  · cases e
/-! ### found.append(left.pop(e)) -/
/-! ### a new dict -/
def xNewK : Ox := fun _ st Q => Q (.dK []) st
theorem po_newK {pos : Pos} : PO X (.Dict [] [] pos) xNewK := fun c l => peOf pe_dnewK fun σ H Q ⟨W, st, H1, Q0, hH, P, q, k⟩ => by
  subst hH
  exact Res.new P (o := .dK []) (fun v W' H2 s P' ov => k _ _ _ _ _ q s P' ov) rfl fun p hp => ⟨[], upd_same, .nil⟩
end
end Q
/-! own special methods: in, not in, [], []=, |, -, ==, != of instances of own classes -/
namespace Q
open PySem L2 PySem.Spec PyProof.Rows
section
variable {X : Cx}
/-! ### signs that call own methods (no error leaves them) -/
theorem OpR.ex {f : Value → Value → Sem Value} {α : Type} {r : α → V → V → Hp → VK → Prop} (h : ∀ i, OpR X f (r i)) : OpR X f (fun x y H Q => ∃ i, r i x y H Q) := fun pins s σ H x y v u Q I rx ry ⟨i, q⟩ => h i pins s σ H x y v u Q I rx ry q
/-! ### o[k] -/
/-! ### ==, != of two instances of one class -/
/-! ### o | p, o - p -/
/-! ### o.p, a property -/
end
end Q
namespace Q
open PySem L2 PySem.Spec PyProof.Rows
/-! ### an instance's making -/
/-! ### self.f = e -/
def putFD (f : Str) (v : D) : List (Str × D) → List (Str × D)
  | [] => [(f, v)]
  | (g, x) :: r => if g = f then (g, v) :: r else (g, x) :: putFD f v r
theorem RepF.put {φ F H} {f : Str} {v : V} {d : D} (h : Rep φ F H v d) : ∀ {vs : List (Str × V)} {ds : List (Str × D)}, RepF φ F H vs ds → RepF φ F H (putF f v vs) (putFD f d ds)
  | _, _, .nil => .cons h .nil
  | _, _, .cons (k := k) a t => by
    unfold putF putFD
    split
    · exact .cons h t
    · exact .cons a (t.put h)
theorem RepF.length {φ F H} : ∀ {vs : List (Str × V)} {ds : List (Str × D)}, RepF φ F H vs ds → vs.length = ds.length
  | _, _, .nil => rfl
  | _, _, .cons _ t => congrArg (· + 1) t.length
/-! ### C(..) -/
end Q
namespace Q
open PySem L2 PySem.Spec PyProof.Rows
/-! ### the tables of databases, read as plain data where nothing is changed -/
theorem Pre.db {c : C0} {W : Wd} {st : Ps} {σ : L2.St} {H : Hp} (P : Pre c W st σ H) {n : Nat} {a r : Addr} {x C : Addr} {sch : D} {rows : List (Str × List (List Key))} (e : W.φ[n]? = some (a, r)) (h : st.S[n]? = some (.db x C sch rows)) : ∃ w dx vs kvs ts, W.owns[n]? = some w ∧ w = a :: r :: ts ∧ w.Nodup ∧ H a = some (.ins C dx [("own_schema", vs), ("own_rows", .ref r)]) ∧ Rp W H vs sch ∧ H r = some (.dK kvs) ∧ TabsAt H kvs rows ts ∧ (rows.map (·.1)).Nodup ∧ (∀ x ∈ w, W.own x) ∧ x = a := by
  have hl := P.base.len
  have hn := (List.getElem?_eq_some_iff.mp e).1
  have ho : W.owns[n]? = some (W.owns[n]'(by omega)) := List.getElem?_eq_getElem (by omega)
  obtain ⟨dx, vs, kvs, ts, e1, h1, h2, h3, h4, h5, h6⟩ := P.base.cell n _ _ _ e h ho
  exact ⟨_, dx, vs, kvs, ts, ho, e1, h1, h2, h3, h4, h5, h6.1, fun x hx => ⟨_, List.mem_of_getElem? ho, hx⟩, h6.2⟩
section
variable {X : Cx} {e ee : Expr} {f : Ex} {g : Ox}
mutual
def flD : D → Bool
  | .non => true
  | .bl _ => true
  | .int _ => true
  | .str _ => true
  | .byt _ => true
  | .ty _ => true
  | .cls _ => true
  | .tup ds => flL ds
  | .lst _ => false
  | .dK _ => false
  | .dT _ => false
  | .ins _ _ => false
  | .exc _ _ _ _ => false
  | .err _ _ => false
  | .cell _ => false
  | .scr _ => false
  | .rows _ => false
def flL : List D → Bool
  | [] => true
  | d :: ds => flD d && flL ds
end
def flO : O → Bool
  | .un => false
  | .d x => flD x
  | .lst xs => flL xs
  | .dK kvs => flL (kvs.map (·.2))
  | .dT kvs => flL (kvs.map (·.2))
  | .ins _ _ fs => flL (fs.map (·.2))
mutual
theorem Rep.flat {φ F H φ' F'} : ∀ {d : D} {v : V}, Rep φ F H v d → flD d = true → Rep φ' F' H v d
  | .non, _, h, _ => by cases h; exact .non
  | .bl b, _, h, _ => by cases h; exact .bl b
  | .int b, _, h, _ => by cases h; exact .int b
  | .str b, _, h, _ => by cases h; exact .str b
  | .byt b, _, h, _ => by cases h; exact .byt b
  | .ty b, _, h, _ => by cases h; exact .ty b
  | .cls b, _, h, _ => by cases h; exact .cls b
  | .cell n, _, h, e => by cases e
  | .rows n, _, h, e => by cases e
  | .lst ds, _, h, e => by cases e
  | .scr ns, _, h, e => by cases e
  | .tup ds, _, h, e => by
    cases h with
    | tup h2 h3 => exact .tup h2 (RepL.flat h3 e)
  | .dK ds, _, h, e => by cases e
  | .dT ds, _, h, e => by cases e
  | .ins C ds, _, h, e => by cases e
  | .exc _ _ _ _, _, h, e => by cases e
  | .err _ _, _, h, e => by cases e
theorem RepL.flat {φ F H φ' F'} : ∀ {ds : List D} {vs : List V}, RepL φ F H vs ds → flL ds = true → RepL φ' F' H vs ds
  | [], _, h, _ => by cases h; exact .nil
  | d :: ds, _, h, e => by
    cases h with
    | cons h1 h2 =>
      have e' : (flD d && flL ds) = true := e
      rw [Bool.and_eq_true] at e'
      exact .cons (Rep.flat h1 e'.1) (RepL.flat h2 e'.2)
end
theorem RepK.flat {φ F H φ' F'} : ∀ {ds : List (Key × D)} {vs : List (Key × V)}, RepK φ F H vs ds → flL (ds.map (·.2)) = true → RepK φ' F' H vs ds
  | [], _, h, _ => by cases h; exact .nil
  | (_, d) :: ds, _, h, e => by
    cases h with
    | cons h1 h2 =>
      have e' : (flD d && flL (ds.map (·.2))) = true := e
      rw [Bool.and_eq_true] at e'
      exact .cons (Rep.flat h1 e'.1) (RepK.flat h2 e'.2)
theorem RepT.flat {φ F H φ' F'} : ∀ {ds : List (List Key × D)} {vs : List (List Key × V)}, RepT φ F H vs ds → flL (ds.map (·.2)) = true → RepT φ' F' H vs ds
  | [], _, h, _ => by cases h; exact .nil
  | (_, d) :: ds, _, h, e => by
    cases h with
    | cons h1 h2 =>
      have e' : (flD d && flL (ds.map (·.2))) = true := e
      rw [Bool.and_eq_true] at e'
      exact .cons (Rep.flat h1 e'.1) (RepT.flat h2 e'.2)
theorem RepF.flat {φ F H φ' F'} : ∀ {ds : List (Str × D)} {vs : List (Str × V)}, RepF φ F H vs ds → flL (ds.map (·.2)) = true → RepF φ' F' H vs ds
  | [], _, h, _ => by cases h; exact .nil
  | (_, d) :: ds, _, h, e => by
    cases h with
    | cons h1 h2 =>
      have e' : (flD d && flL (ds.map (·.2))) = true := e
      rw [Bool.and_eq_true] at e'
      exact .cons (Rep.flat h1 e'.1) (RepF.flat h2 e'.2)
theorem OwnAt.flat {W W' : Wd} {H : Hp} {a : Addr} {o : O} (h : OwnAt W H a o) (e : flO o = true) : OwnAt W' H a o := by
  cases o with
  | un => exact h
  | d x => exact h
  | lst _ => obtain ⟨_, h, g⟩ := h; exact ⟨_, h, g.flat e⟩
  | dK _ => obtain ⟨_, h, g⟩ := h; exact ⟨_, h, g.flat e⟩
  | dT _ => obtain ⟨_, h, g⟩ := h; exact ⟨_, h, g.flat e⟩
  | ins _ _ _ => obtain ⟨z, _, _, h, g⟩ := h; exact ⟨z, _, _, h, g.flat e⟩
/-- the cells' things are plain, for a while -/
def Wd.view (W : Wd) : Wd := { W with F := fun a => W.F a ∨ W.own a }
theorem Base.view {W : Wd} {S : List Cell} {H : Hp} (B : Base false W S H) : Base false W.view S H := by
  refine ⟨fun a h => ?_, B.len, fun n a x w h1 h2 h3 => (B.cell n a x w h1 h2 h3).fut ⟨fun _ _ e => e, fun _ h => .inl h, fun _ _ _ e => e, fun _ _ e => e⟩ fun _ _ => rfl, B.apart, (fun z => by cases z), B.lN, fun a o h => ⟨(B.lF a o h).1.elim (fun z => .inl (.inl z)) .inr, (B.lF a o h).2⟩⟩
  rcases h with h | h
  · exact B.fdom a h
  · obtain ⟨o, e, _⟩ := B.own_there h
    exact ⟨o, e⟩
abbrev C0.view (c : C0) : C0 := { c with W0 := c.W0.view, E := E0k }
theorem Pre.view {c : C0} {W : Wd} {st : Ps} {σ : L2.St} {H : Hp} (P : Pre c W st σ H) (hr : st.rw = false) : Pre c.view W.view { st with vw := true } σ H := by
  have hc : c.rw = false := P.hrw.symm.trans hr
  have s := P.step
  have sv : Step c.rw W H W.view H := ⟨fun _ _ e => e, fun _ h => .inl h, fun _ _ e _ => e, fun _ _ e => e, fun _ h => h, fun _ h => .inl h, ⟨[], rfl⟩, fun _ h => .inl h⟩
  refine ⟨P.hrw, ⟨s.cells, fun a h => h.elim (fun z => .inl (s.sub a z)) fun z => (s.ownOld a z).elim .inr fun y => (by rw [hc] at y; cases y), s.keep, s.tups, s.dom, s.ownNew, s.locks, s.ownOld⟩, fun a h => ?_, ?_, P.slen, fun i o h => (P.slot i o h).fut (P.fut sv) fun _ _ _ => rfl, fun i a h => ?_, P.sapart, fun a h => ?_, fun _ => ⟨hc, fun a h => .inr h⟩, P.own0⟩
  · rcases h with h | h
    · exact (P.new a h).elim (fun z => .inl (.inl z)) .inr
    · exact (s.ownNew a h).elim (fun z => .inl (.inr z)) fun z => (by rw [hc] at z; cases z.1)
  · have B := P.base
    rw [hc] at B
    show Base c.rw _ _ _
    rw [hc]
    exact B.view
  · obtain ⟨h1, h2, h3⟩ := P.sown i a h
    exact ⟨fun z => z.elim h1 h2, h2, h3⟩
  · obtain ⟨h1, h2, h3, h4⟩ := P.rsv a h
    exact ⟨fun z => z.elim h1 h2, h2, h3, h4⟩
end
end Q
namespace Q
open PySem L2 PySem.Spec PyProof.Rows
/-! ### dict comprehensions, keys of either kind -/
section
variable {X : Cx} {pins : List (Addr × Obj)} {σ : L2.St} {H : Hp} {s : Shared}
theorem set_any {H' : Hp} {a : Addr} {y v : V} {u r : Value} {E : Value → Shared → Prop} {Q : Unit → Shared → Prop} (hu : X.A.units < cLine) (I : L2.Inv X pins σ H s) (g : DPut H a y v H') (ry : RelV y u) (rv : RelV v r) (k : ∀ s', L2.Inv X pins σ H' s' → Q () s') : wpAny (model X.prog X.w) X.A (dictSet a u r) Q E s := by
  rcases g with ⟨kvs, key, ha, rfl, l, rfl⟩ | ⟨kvs, key, b, ha, rfl, hb, l, rfl⟩
  · exact d_dictSet I ha l ry rv k
  · cases (show u = Value.ref b from ry)
    obtain ⟨z, hd, xs, rel, dd⟩ := dt_of I.hok ha
    refine wpAny_dictSet_heap (hsz := by rw [← Paired.length rel]; exact z) (show (tupleKind (mixKind X.prog X.w)).room X.A from hu) (key_of I.hok hb) dd fun h' new same => k _ ?_
    obtain ⟨q, es, ep, hq, n2, n3, n4, _, n5⟩ := new
    have grown : (putK kvs key v).length ≤ sizeLine := by have := length_putK kvs key v; omega
    exact d_write I (by rw [ha]; exact True.intro) same ⟨q, hq⟩ ⟨grown, hd, _, (rel.put key hb rv).keeps fun c ys ec => by rw [upd_ne (ne_of ec ha (fun z => nomatch z))]; exact ec, q, es, ep, hq, n2, n3, n4, n5⟩
/-- the empty dict, of either kind -/
def noKeys (t : Bool) : HO := if t then .dT [] else .dK []
theorem noKeys_ok (t : Bool) {P : Program} {w : World} {H : Hp} (h : Heap) (hb : sysModules < h.objs.size) : ObjOk P w H (h.push { cls := .type "dict", data := .dict #[] }) h.objs.size (noKeys t) := by
  cases t
  · exact dk_empty h hb
  · exact dt_empty h hb
end
end Q
namespace Q
open PySem L2 PySem.Spec PyProof.Rows
/-! ### a dict gets a key -/
def putD {κ : Type} [DecidableEq κ] (kvs : List (κ × D)) (k : κ) (v : D) : List (κ × D) := if (kvs.any fun kv => decide (kv.1 = k)) = true then kvs.map (fun kv => if kv.1 = k then (kv.1, v) else kv) else kvs ++ [(k, v)]
def dropD {κ : Type} [DecidableEq κ] (kvs : List (κ × D)) (k : κ) : List (κ × D) := kvs.filter fun kv => decide (kv.1 ≠ k)
def putO (o : O) (k v : D) : Option O := match o with
  | .dK kvs => (keyD k).map fun key => .dK (putD kvs key v)
  | .dT kvs => (match k with
    | .tup ks => (keysD ks).map fun key => .dT (putD kvs key v)
    | _ => none)
  | _ => none
def lenO : O → Nat
  | .dK kvs => kvs.length
  | .dT kvs => kvs.length
  | .lst xs => xs.length
  | _ => 0
theorem RepK.any {φ F H} {k : Key} : ∀ {vs : List (Key × V)} {ds : List (Key × D)}, RepK φ F H vs ds → (vs.any fun kv => decide (kv.1 = k)) = (ds.any fun kv => decide (kv.1 = k))
  | _, _, .nil => rfl
  | _, _, .cons h t => by rw [List.any_cons, List.any_cons, t.any]
theorem RepT.any {φ F H} {k : List Key} : ∀ {vs : List (List Key × V)} {ds : List (List Key × D)}, RepT φ F H vs ds → (vs.any fun kv => decide (kv.1 = k)) = (ds.any fun kv => decide (kv.1 = k))
  | _, _, .nil => rfl
  | _, _, .cons h t => by rw [List.any_cons, List.any_cons, t.any]
theorem RepK.mapp {φ F H} {k : Key} {v : V} {d : D} (r : Rep φ F H v d) : ∀ {vs : List (Key × V)} {ds : List (Key × D)}, RepK φ F H vs ds → RepK φ F H (vs.map fun kv => if kv.1 = k then (kv.1, v) else kv) (ds.map fun kv => if kv.1 = k then (kv.1, d) else kv)
  | _, _, .nil => .nil
  | _, _, .cons (k := k') h t => by
    rw [List.map_cons, List.map_cons]
    dsimp only
    split
    · exact .cons r (t.mapp r)
    · exact .cons h (t.mapp r)
theorem RepT.mapp {φ F H} {k : List Key} {v : V} {d : D} (r : Rep φ F H v d) : ∀ {vs : List (List Key × V)} {ds : List (List Key × D)}, RepT φ F H vs ds → RepT φ F H (vs.map fun kv => if kv.1 = k then (kv.1, v) else kv) (ds.map fun kv => if kv.1 = k then (kv.1, d) else kv)
  | _, _, .nil => .nil
  | _, _, .cons (k := k') h t => by
    rw [List.map_cons, List.map_cons]
    dsimp only
    split
    · exact .cons r (t.mapp r)
    · exact .cons h (t.mapp r)
theorem RepK.snoc {φ F H} {k : Key} {v : V} {d : D} (r : Rep φ F H v d) : ∀ {vs : List (Key × V)} {ds : List (Key × D)}, RepK φ F H vs ds → RepK φ F H (vs ++ [(k, v)]) (ds ++ [(k, d)])
  | _, _, .nil => .cons r .nil
  | _, _, .cons h t => .cons h (t.snoc r)
theorem RepT.snoc {φ F H} {k : List Key} {v : V} {d : D} (r : Rep φ F H v d) : ∀ {vs : List (List Key × V)} {ds : List (List Key × D)}, RepT φ F H vs ds → RepT φ F H (vs ++ [(k, v)]) (ds ++ [(k, d)])
  | _, _, .nil => .cons r .nil
  | _, _, .cons h t => .cons h (t.snoc r)
theorem RepK.put {φ F H} {k : Key} {v : V} {d : D} {vs : List (Key × V)} {ds : List (Key × D)} (h : RepK φ F H vs ds) (r : Rep φ F H v d) : RepK φ F H (putK vs k v) (putD ds k d) := by
  unfold putK putD
  rw [h.any]
  split
  · exact h.mapp r
  · exact h.snoc r
theorem RepT.put {φ F H} {k : List Key} {v : V} {d : D} {vs : List (List Key × V)} {ds : List (List Key × D)} (h : RepT φ F H vs ds) (r : Rep φ F H v d) : RepT φ F H (putK vs k v) (putD ds k d) := by
  unfold putK putD
  rw [h.any]
  split
  · exact h.mapp r
  · exact h.snoc r
theorem RepK.drop {φ F H} {k : Key} : ∀ {vs : List (Key × V)} {ds : List (Key × D)}, RepK φ F H vs ds → RepK φ F H (dropK vs k) (dropD ds k)
  | _, _, .nil => .nil
  | _, _, .cons (k := k') (v := v) (d := d) (vs := vs) (ds := ds) h t => by
    unfold dropK dropD
    rw [List.filter_cons, List.filter_cons]
    dsimp only
    split
    · exact .cons h t.drop
    · exact t.drop
theorem RepT.drop {φ F H} {k : List Key} : ∀ {vs : List (List Key × V)} {ds : List (List Key × D)}, RepT φ F H vs ds → RepT φ F H (dropK vs k) (dropD ds k)
  | _, _, .nil => .nil
  | _, _, .cons (k := k') (v := v) (d := d) (vs := vs) (ds := ds) h t => by
    unfold dropK dropD
    rw [List.filter_cons, List.filter_cons]
    dsimp only
    split
    · exact .cons h t.drop
    · exact t.drop
theorem put_ok {c : C0} {W : Wd} {st : Ps} {σ : L2.St} {H : Hp} (P : Pre c W st σ H) {a : Addr} {o o' : O} {y z : V} {k d : D} (h : OwnAt W H a o) (hl : W.L.lookup a = none) (ty : Top W.φ W.F H y k) (rz : Rp W H z d) (hz : lenO o < sizeLine) (e : putO o k d = some o') :
    ∃ u u', H a = some u ∧ mutO u = true ∧ DPut (lockH W.L H) a y z (upd (lockH W.L H) a u') ∧ o'.owned = true ∧ o.owned = true ∧ (Fut W.φ W.F H W.φ W.F (upd H a u') → OwnAt W (upd H a u') a o') := by
  cases o with
  | dK kvs =>
    obtain ⟨key, e1, rfl⟩ := Option.map_eq_some_iff.mp e
    obtain ⟨xs, h1, h2⟩ := h
    have := key_rep ty e1
    subst this
    exact ⟨_, .dK (putK xs key z), h1, rfl, .k ((lock_at hl).trans h1) (by rw [h2.length]; exact hz), rfl, rfl, fun f => ⟨_, upd_same, (h2.put rz).fut f⟩⟩
  | dT kvs =>
    cases k with
    | tup ks =>
      obtain ⟨key, e1, rfl⟩ := Option.map_eq_some_iff.mp e
      obtain ⟨xs, h1, h2⟩ := h
      cases ty with
      | tup t1 t2 =>
        have := keys_rep t2 e1
        subst this
        exact ⟨_, .dT (putK xs key z), h1, rfl, .t ((lock_at hl).trans h1) (P.nol t1 rfl) (by rw [h2.length]; exact hz), rfl, rfl, fun f => ⟨_, upd_same, (h2.put rz).fut f⟩⟩
    | _ => cases e
  | _ => cases e
/-! ### {k: v for ..} -/
def dcW (tg : Tg) (tt : Tx) (fk fv : Ex) (vs : List Nat) (Q : O → Ps → Prop) : List D → O → Ps → Prop
  | [], acc, st => Q acc (st.wp vs)
  | d :: ds, acc, st => tg d (st.wp vs) fun st2 => tt E0k st2 fun b st3 => if b = true then fk E0k st3 fun r st4 => opt (frz st4 r) fun q => fv E0k q.2 fun r2 st5 => opt (frz st5 r2) fun q2 => lenO acc < sizeLine ∧ opt (putO acc q.1 q2.1) fun acc' => dcW tg tt fk fv vs Q ds acc' q2.2 else dcW tg tt fk fv vs Q ds acc st3
def noKeysO (t : Bool) : O := if t then .dT [] else .dK []
def xDc (t : Bool) (fi : Ix) (tg : Tg) (tt : Tx) (fk fv : Ex) (vs : List Nat) : Ox := fun E st Q => fi E st fun ds st1 => dcW tg tt fk fv vs Q ds (noKeysO t) st1
theorem noKeys_own (t : Bool) {W : Wd} {H : Hp} {D : Addr} : OwnAt W (upd H D (noKeys t)) D (noKeysO t) := by
  cases t
  · exact ⟨[], upd_same, .nil⟩
  · exact ⟨[], upd_same, .nil⟩
end Q
namespace Q
open PySem L2 PySem.Spec PyProof.Rows
/-! ### defs with *rest -/
section
variable {P : Program} {w : World} {K : PySem.W.Frag} {mg : Str → Option Value} {base : Heap}
theorem Base.lnone {rw : Bool} {W : Wd} {S : List Cell} {H : Hp} (B : Base rw W S H) {p : Addr} (h : lockH W.L H p = none) : H p = none ∧ W.L.lookup p = none := by
  have h1 := lock_none h
  refine ⟨h1, ?_⟩
  cases e : W.L.lookup p with
  | none => rfl
  | some o =>
    obtain ⟨_, u, q, _⟩ := B.lF p o e
    rw [h1] at q
    cases q
theorem upd_none {H : Hp} {p a : Addr} {o : HO} (h : upd H p o a = none) : H a = none := by
  unfold upd at h
  split at h
  · cases h
  · exact h
end
end Q
/-! tuple(d), dict(pairs), dict(d) -/
namespace Q
open PySem L2 PySem.Spec PyProof.Rows
section
variable {X : Cx}
def tupG : Gc := fun ds J => match ds with
  | [.lst xs] => J (.d (.tup xs))
  | [.tup xs] => J (.d (.tup xs))
  | [.dK kvs] => J (.d (.tup (kvs.map fun kv => kD kv.1)))
  | _ => False
/-! ### dict(..) -/
end
end Q
namespace Q
open PySem L2
/-! ### the pen: the one object that draws change -/
/-- all but p is as it was -/
def Sb (p : Addr) (H H' : Hp) : Prop := ∀ a o, H a = some o → a ≠ p → H' a = some o
theorem Sb.trans {p : Addr} {H H1 H2 : Hp} (a : Sb p H H1) (b : Sb p H1 H2) : Sb p H H2 := fun c o e n => b c o (a c o e n) n
theorem Sb.of {p : Addr} {H H' : Hp} (h : Same H H') : Sb p H H' := fun a o e _ => h a o e
theorem sm_pen {H : Hp} {p : Addr} {u o : HO} (h : H p = some u) : Sb p H (upd H p o) := fun a v e n => by
  rw [upd_ne n]
  exact e
/-- the pen at p, its cells at c, at most n draws made -/
structure Pen (H : Hp) (p c : Addr) (n : Nat) : Prop where
  ex : ∃ (cells : List Int) (t l : Int), H p = some (.dK (penK c t l)) ∧ H c = some (.lst (cells.map V.int)) ∧ cells.length ≤ 63 ∧ 0 ≤ t ∧ t ≤ (n : Int) ∧ 0 ≤ l
abbrev kC : Key := Sum.inr ("cells" : Str)
abbrev kT : Key := Sum.inr ("turn" : Str)
abbrev kL : Key := Sum.inr ("left" : Str)
theorem k_lc : ¬ kC = kL := by decide +kernel
theorem k_lt : ¬ kT = kL := by decide +kernel
theorem k_tc : ¬ kC = kT := by decide +kernel
theorem k_tl : ¬ kL = kT := by decide +kernel
theorem pen_left (c : Addr) (t l : Int) : valV (penK c t l) kL = some (.int l) := by
  unfold penK
  rw [valV_neg (show ¬ (kC, V.ref c).1 = kL from k_lc), valV_neg (show ¬ (kT, V.int t).1 = kL from k_lt), valV_pos rfl]
theorem pen_turn (c : Addr) (t l : Int) : valV (penK c t l) kT = some (.int t) := by
  unfold penK
  rw [valV_neg (show ¬ (kC, V.ref c).1 = kT from k_tc), valV_pos rfl]
theorem pen_cells (c : Addr) (t l : Int) : valV (penK c t l) kC = some (.ref c) := by
  unfold penK
  rw [valV_pos rfl]
theorem pen_len (c : Addr) (t l : Int) : (penK c t l).length < sizeLine := sizeLine_lt (show 3 ≤ 100000 by decide)
theorem ite_next {b : Bool} {A B N : Prop} (hN : N) (hA : N → b = true → A) : if b = true then A else (if false = true then B else N) := by
  cases b
  · exact iteF (iteF hN)
  · exact iteT (hA hN rfl)
theorem put_left (c : Addr) (t l m : Int) : putK (penK c t l) kL (.int m) = penK c t m := by
  have e : ((penK c t l).any fun kv => decide (kv.1 = kL)) = true := by rw [valV_any, pen_left]; rfl
  unfold putK
  rw [if_pos e]
  show [if kC = kL then _ else _, if kT = kL then _ else _, if kL = kL then _ else _] = _
  rw [if_neg k_lc, if_neg k_lt, if_pos rfl]
theorem put_turn (c : Addr) (t l m : Int) : putK (penK c t l) kT (.int m) = penK c m l := by
  have e : ((penK c t l).any fun kv => decide (kv.1 = kT)) = true := by rw [valV_any, pen_turn]; rfl
  unfold putK
  rw [if_pos e]
  show [if kC = kT then _ else _, if kT = kT then _ else _, if kL = kT then _ else _] = _
  rw [if_neg k_tc, if_neg k_tl, if_pos rfl]
theorem dpAll_ints {K : PySem.W.Frag} {H : Hp} : ∀ xs : List Int, DpAll K H (xs.map V.int) (xs.map PyData.int)
  | [] => .nil
  | x :: xs => .cons (.int x) (dpAll_ints xs)
theorem canLay_ints : ∀ xs : List Int, PyData.canLayAll0 (xs.map PyData.int) = true
  | [] => rfl
  | x :: xs => by
    rw [List.map_cons]
    unfold PyData.canLayAll0
    rw [canLay_ints xs]
    rfl
theorem depth_ints : ∀ (xs : List Int), PyData.depthAll (xs.map PyData.int) = 0
  | [] => rfl
  | x :: xs => by
    rw [List.map_cons]
    unfold PyData.depthAll
    rw [depth_ints xs]
    rfl
theorem shaped_ints (xs : List Int) : SeqAt.shaped (.list (xs.map PyData.int)) = true := by
  unfold SeqAt.shaped PyData.canLay0 PyData.depth
  rw [canLay_ints, depth_ints]
  rfl
theorem primes_at (i : Int) (h0 : 0 ≤ i) (h1 : i < 5) : ∃ q : Int, atI [V.int 2147483629, V.int 2147483647, V.int 2147483587, V.int 2147483563, V.int 2147483579] i = some (.int q) ∧ 0 < q ∧ q < 4294967296 := by
  obtain rfl | rfl | rfl | rfl | rfl : i = 0 ∨ i = 1 ∨ i = 2 ∨ i = 3 ∨ i = 4 := by omega
  all_goals exact ⟨_, rfl, by decide, by decide⟩
theorem mod_small {x q : Int} (h0 : 0 < q) (h1 : q < 4294967296) : -(2 ^ 64) < x % q ∧ x % q < 2 ^ 64 := by
  have h2 : 0 ≤ x % q := Int.emod_nonneg _ (by omega)
  have h3 : x % q < q := Int.emod_lt_of_pos _ h0
  omega
theorem at_mod {xs : List Int} {t : Int} (ht : 0 ≤ t) (hl : 0 < xs.length) : ∃ x : Int, atI (xs.map V.int) (t % (xs.length : Int)) = some (.int x) := by
  have h0 : 0 ≤ t % (xs.length : Int) := Int.emod_nonneg _ (by omega)
  have h1 : t % (xs.length : Int) < (xs.length : Int) := Int.emod_lt_of_pos _ (by omega)
  obtain ⟨j, hj⟩ := Int.eq_ofNat_of_zero_le h0
  rw [hj] at h1 ⊢
  have hj2 : j < xs.length := by omega
  exact ⟨xs[j], atI_nat (by rw [List.getElem?_map, List.getElem?_eq_getElem hj2]; rfl)⟩
def spPen (K : PySem.W.Frag) : Sp := fun vs H Q _ => ∃ (a : Addr) (ns : List Int), vs = [.ref a] ∧ SqL K H a (ns.map V.int) ∧ ns.length ≤ 63 ∧ ∀ p c H', H p = none → H c = none → p ≠ c → Same H H' → Pen H' p c 0 → Q (.ref p) H'
def spDraw : Sp := fun vs H Q _ => ∃ (p c : Addr) (n : Nat) (span : Int), vs = [.ref p, .int span] ∧ Pen H p c n ∧ n < 2 ^ 60 ∧ 0 < span ∧ span < 1000 ∧ ∀ d H', 0 ≤ d → d < span → Sb p H H' → Pen H' p c (n + 1) → Q (.int d) H'
/-- a list of the module -/
def KL (K : PySem.W.Frag) (a : Addr) (ns : List Int) : Prop := ∃ (o : Obj) (its : Array Value) (n : Nat), K.lookup a = some o ∧ o.cls = .type "list" ∧ o.dict = none ∧ o.data = .seq its n ∧ its.size ≤ sizeLine ∧ Vals (ns.map V.int) its.toList
/-- the script: a list, or one of the module's own -/
def ScrD (K : PySem.W.Frag) (d : D) (ns : List Int) : Prop := d = .scr ns ∨ ∃ a, d = .cls a ∧ KL K a ns
def m__law_pen (K : PySem.W.Frag) : MF := fun ds E S Q => match ds with
  | [d] => ∃ ns, ScrD K d ns ∧ ns.length ≤ 63 ∧ Q (.d (.cell S.length)) (S ++ [.pen 0])
  | _ => False
def m__law_draw : MF := fun ds E S Q => match ds with
  | [.cell i, .int span] => (match S[i]? with
    | some (.pen n) => n < 2 ^ 60 ∧ 0 < span ∧ span < 1000 ∧ ∀ d : Int, 0 ≤ d → d < span → Q (.d (.int d)) (S.set i (.pen (n + 1)))
    | _ => False)
  | _ => False
/-- the heap without the locks -/
def unlock (L : List (Addr × Obj)) (H1 H' : Hp) : Hp := fun b => match L.lookup b with
  | some _ => H1 b
  | none => H' b
theorem unlock_lock {L : List (Addr × Obj)} {H1 H' : Hp} (h : ∀ b o, L.lookup b = some o → lockH L H1 b = H' b) : lockH L (unlock L H1 H') = H' := by
  funext b
  unfold lockH unlock
  cases e : L.lookup b with
  | none => rfl
  | some o =>
    have := h b o e
    unfold lockH at this
    rw [e] at this
    exact this
theorem Base.own_free {W : Wd} {S : List Cell} {H : Hp} (B : Base true W S H) {a : Addr} (h : W.own a) : W.L.lookup a = none := by
  cases e : W.L.lookup a with
  | none => rfl
  | some o => exact ((B.lF a o e).1.elim (B.ownF rfl a h) fun z => by cases z.1).elim
theorem Base.nol {rw : Bool} {W : Wd} {S : List Cell} {H : Hp} (B : Base rw W S H) {a : Addr} {u : HO} (h : H a = some u) (hd : dictO u = false) : W.L.lookup a = none := by
  cases e : W.L.lookup a with
  | none => rfl
  | some o =>
    obtain ⟨_, x, e1, e2⟩ := B.lF a o e
    rw [h] at e1
    cases e1
    rw [hd] at e2
    cases e2
theorem draw_sp {vs : List V} {H : Hp} {Q : VK} {E : XK} (h : spM true 2 m__law_draw vs H Q E) : spDraw vs H Q E := by
  obtain ⟨W, S, H1, ds, Q0, E0, rfl, B, r, hl, q, kr, ke⟩ := h
  unfold m__law_draw at q
  split at q
  · rename_i i span
    split at q
    · rename_i n hS
      obtain ⟨hn, h0, h1, q⟩ := q
      cases r with
      | cons r1 r2 =>
        cases r2 with
        | cons r3 r4 =>
          cases r4
          cases r3
          cases r1 with
          | cell e =>
            rename_i p rr
            have hll := B.len
            have hi := (List.getElem?_eq_some_iff.mp e).1
            have hw : W.owns[i]? = some (W.owns[i]'(by omega)) := List.getElem?_eq_getElem (by omega)
            have rep0 := B.cell i _ _ _ e hS hw
            obtain ⟨ew, c, cells, t, l, hF, a1, a2, a3, a4, a5, a6⟩ := rep0
            have op : W.own p := ⟨_, List.mem_of_getElem? hw, by rw [ew]; exact List.mem_cons_self⟩
            have lp := B.own_free op
            have lc := B.nol a2 rfl
            refine ⟨p, c, n, span, rfl, ⟨cells, t, l, (lock_at lp).trans a1, (lock_at lc).trans a2, a3, a4, a5, a6⟩, hn, h0, h1, fun d H' d0 d1 sb pn => ?_⟩
            obtain ⟨cells', t', l', b1, b2, b3, b4, b5, b6⟩ := pn.ex
            have lkd : ∀ b o, W.L.lookup b = some o → lockH W.L H1 b = H' b := fun b o eb => by
              have nb : b ≠ p := fun z => by rw [z, lp] at eb; cases eb
              obtain ⟨_, u, hu, _⟩ := B.lF b o eb
              have : lockH W.L H1 b = some (.frz o u) := by unfold lockH; rw [eb, hu]; rfl
              rw [this, sb b _ this nb]
            have kp : ∀ a o, H1 a = some o → a ≠ p → unlock W.L H1 H' a = some o := fun a o ha na => by
              unfold unlock
              cases eb : W.L.lookup a with
              | some _ => exact ha
              | none => exact sb a o ((lock_at eb).trans ha) na
            have u1 : unlock W.L H1 H' p = H' p := by unfold unlock; rw [lp]
            have u2 : unlock W.L H1 H' c = H' c := by unfold unlock; rw [lc]
            have ft : Fut W.φ W.F H1 W.φ W.F (unlock W.L H1 H') := ⟨fun _ _ z => z, fun _ z => z, fun a o hf ha => kp a o ha fun z => B.ownF rfl p op (by rw [← z]; exact hf), fun a xs ha => kp a _ ha fun z => by rw [z, a1] at ha; cases ha⟩
            have fin := kr (.d (.int d)) (S.set i (.pen (n + 1))) (.int d) W (unlock W.L H1 H') (q d d0 d1) ?_ (fun a z => .inl z) ?_ rfl (.int d)
            · rw [unlock_lock lkd] at fin
              exact fin
            · refine ⟨fun _ _ z => z, fun _ z => z, fun a o ha no => kp a o ha fun z => no rfl (by rw [z]; exact op), ft.tups, fun a ha => ?_, fun _ z => .inl z, ⟨[], rfl⟩, fun _ z => .inl z⟩
              by_cases z : a = p
              · rw [z, u1, b1]
                intro y
                cases y
              · cases eb : H1 a with
                | none => exact absurd eb ha
                | some o =>
                  rw [kp a o eb z]
                  intro y
                  cases y
            · refine ⟨fun a ha => ?_, by rw [List.length_set]; exact B.len, fun j x cl w g1 g2 g3 => ?_, B.apart, B.ownF, B.lN, fun a o ha => ?_⟩
              · obtain ⟨o, ho⟩ := B.fdom a ha
                exact ⟨o, ft.keep a o ha ho⟩
              · by_cases ji : j = i
                · subst ji
                  rw [e] at g1
                  cases g1
                  rw [hw] at g3
                  cases g3
                  rw [List.getElem?_set, if_pos rfl] at g2
                  split at g2
                  · cases g2
                    exact ⟨ew, c, cells', t', l', hF, by rw [u1]; exact b1, by rw [u2]; exact b2, b3, b4, b5, b6⟩
                  · cases g2
                · rw [List.getElem?_set_ne (Ne.symm ji)] at g2
                  have rep := B.cell j x cl w g1 g2 g3
                  refine rep.fut ft fun y hy => ?_
                  obtain ⟨o, ho, _⟩ := rep.there y hy
                  rw [ho]
                  refine kp y o ho fun z => ji (B.apart j i w _ y g3 hw hy ?_)
                  rw [ew, z]
                  exact List.mem_cons_self
              · obtain ⟨k1, u, k2, k3⟩ := B.lF a o ha
                exact ⟨k1, u, kp a u k2 (fun z => by rw [z, lp] at ha; cases ha), k3⟩
    · exact q.elim
  · exact q.elim
def Wd.cell (W : Wd) (p c : Addr) : Wd := { W with φ := W.φ ++ [(p, p)], owns := W.owns ++ [[p]], F := fun a => W.F a ∨ a = c }
theorem snoc_get {α : Type} {xs : List α} {x y : α} {n : Nat} (h : (xs ++ [x])[n]? = some y) : xs[n]? = some y ∨ (n = xs.length ∧ y = x) := by
  rw [List.getElem?_append] at h
  split at h
  · exact .inl h
  · rename_i hn
    have : n - xs.length = 0 := by
      cases e : n - xs.length with
      | zero => rfl
      | succ k => rw [e] at h; simp at h
    rw [this] at h
    simp at h
    exact .inr ⟨by omega, h.symm⟩
theorem pen_sp {K : PySem.W.Frag} {vs : List V} {H : Hp} {Q : VK} {E : XK} (h : spM true 1 (m__law_pen K) vs H Q E) : spPen K vs H Q E := by
  obtain ⟨W, S, H1, ds, Q0, E0, rfl, B, r, hl, q, kr, ke⟩ := h
  unfold m__law_pen at q
  split at q
  · rename_i d
    obtain ⟨ns, sd, q⟩ := q
    cases r with
    | cons r1 r2 =>
      rename_i v0 _
      cases r2
      have hsv : ∃ a, v0 = .ref a ∧ SqL K (lockH W.L H1) a (ns.map V.int) := by
        rcases sd with rfl | ⟨a, rfl, kl⟩
        · cases r1 with
          | scr hf hd =>
            rename_i a
            refine ⟨a, rfl, .inl ?_⟩
            rcases hd with hd | ⟨o, hd⟩
            · exact .inl ((lock_at (B.nol hd rfl)).trans hd)
            · exact .inr ⟨o, (lock_at (B.nol hd rfl)).trans hd⟩
        · cases r1
          exact ⟨a, rfl, .inr kl⟩
      obtain ⟨a, rfl, hsq⟩ := hsv
      · refine ⟨a, ns, rfl, hsq, q.1, fun p c H' hp hc npc sm pn => ?_⟩
        obtain ⟨p1, p2⟩ := B.lnone hp
        obtain ⟨c1, c2⟩ := B.lnone hc
        obtain ⟨cells', t', l', b1, b2, b3, b4, b5, b6⟩ := pn.ex
        have lkd : ∀ b o, W.L.lookup b = some o → lockH W.L H1 b = H' b := fun b o eb => by
          obtain ⟨_, u, hu, _⟩ := B.lF b o eb
          have : lockH W.L H1 b = some (.frz o u) := by unfold lockH; rw [eb, hu]; rfl
          rw [this, sm b _ this]
        have kp : ∀ a o, H1 a = some o → unlock W.L H1 H' a = some o := fun a o ha => by
          unfold unlock
          cases eb : W.L.lookup a with
          | some _ => exact ha
          | none => exact sm a o ((lock_at eb).trans ha)
        have u1 : unlock W.L H1 H' p = H' p := by unfold unlock; rw [p2]
        have u2 : unlock W.L H1 H' c = H' c := by unfold unlock; rw [c2]
        have nop : ¬ W.own p := fun z => by
          obtain ⟨o, e, _⟩ := B.own_there z
          rw [p1] at e; cases e
        have noc : ¬ W.own c := fun z => by
          obtain ⟨o, e, _⟩ := B.own_there z
          rw [c1] at e; cases e
        have nfp : ¬ W.F p := fun z => by
          obtain ⟨o, e⟩ := B.fdom _ z
          rw [p1] at e; cases e
        have ow : ∀ x, (W.cell p c).own x → W.own x ∨ x = p := fun x ⟨w, hw, hx⟩ => by
          rcases List.mem_append.mp hw with hw | hw
          · exact .inl ⟨w, hw, hx⟩
          · rw [List.mem_singleton.mp hw] at hx
            exact .inr (List.mem_singleton.mp hx)
        have ft : Fut W.φ W.F H1 (W.cell p c).φ (W.cell p c).F (unlock W.L H1 H') := ⟨fun n x z => by
          show (W.φ ++ [(p, p)])[n]? = some x
          rw [List.getElem?_append_left (List.getElem?_eq_some_iff.mp z).1]
          exact z, fun _ z => .inl z, fun a o _ h => kp a o h, fun a xs h => kp a _ h⟩
        have lens := B.len
        have fin := kr (.d (.cell S.length)) (S ++ [.pen 0]) (.ref p) (W.cell p c) (unlock W.L H1 H') q.2 ?_ (fun a z => z.elim .inl fun e => .inr (by rw [e]; exact c1)) ?_ rfl (.cell (r := p) ?_)
        · rw [unlock_lock lkd] at fin
          exact fin
        · refine ⟨ft.cells, ft.sub, fun a o h _ => kp a o h, fun a xs h => kp a _ h, fun a h => ?_, fun a z => (ow a z).elim .inl fun e => .inr ⟨rfl, by rw [e]; exact p1⟩, ⟨[], rfl⟩, fun a ⟨w, hw, hx⟩ => .inl ⟨w, List.mem_append_left _ hw, hx⟩⟩
          cases e : H1 a with
          | none => exact absurd e h
          | some o =>
            rw [kp a o e]
            intro y; cases y
        · refine ⟨fun a h => ?_, ?_, fun n x cl w g1 g2 g3 => ?_, fun m n w w' x g1 g2 g3 g4 => ?_, fun _ a ho hf => ?_, B.lN, fun a o h => ?_⟩
          · rcases h with h | rfl
            · obtain ⟨o, e⟩ := B.fdom a h
              exact ⟨o, kp a o e⟩
            · exact ⟨_, u2.trans b2⟩
          · show (W.φ ++ [(p, p)]).length = (S ++ [Cell.pen 0]).length ∧ (W.owns ++ [[p]]).length = (S ++ [Cell.pen 0]).length
            simp only [List.length_append, List.length_singleton]
            omega
          · rcases snoc_get g1 with k1 | ⟨k1, rfl⟩
            · rcases snoc_get g2 with k2 | ⟨k2, rfl⟩
              · rcases snoc_get g3 with k3 | ⟨k3, rfl⟩
                · have rep := B.cell n x cl w k1 k2 k3
                  refine rep.fut ft fun y hy => ?_
                  obtain ⟨o, e, _⟩ := rep.there y hy
                  rw [e, kp y o e]
                · have := (List.getElem?_eq_some_iff.mp k1).1
                  omega
              · have := (List.getElem?_eq_some_iff.mp k1).1
                omega
            · rcases snoc_get g2 with k2 | ⟨k2, rfl⟩
              · have := (List.getElem?_eq_some_iff.mp k2).1
                omega
              · rcases snoc_get g3 with k3 | ⟨k3, rfl⟩
                · have := (List.getElem?_eq_some_iff.mp k3).1
                  omega
                · exact ⟨rfl, c, cells', t', l', .inr rfl, u1.trans b1, u2.trans b2, b3, b4, b5, b6⟩
          · rcases snoc_get g1 with k1 | ⟨k1, rfl⟩
            · rcases snoc_get g2 with k2 | ⟨k2, rfl⟩
              · exact B.apart m n w w' x k1 k2 g3 g4
              · exact absurd ⟨w, List.mem_of_getElem? k1, by rw [← List.mem_singleton.mp g4]; exact g3⟩ nop
            · rcases snoc_get g2 with k2 | ⟨k2, rfl⟩
              · exact absurd ⟨w', List.mem_of_getElem? k2, by rw [← List.mem_singleton.mp g3]; exact g4⟩ nop
              · omega
          · rcases ow a ho with ho1 | rfl
            · rcases hf with hf | rfl
              · exact B.ownF rfl a ho1 hf
              · exact noc ho1
            · rcases hf with hf | hf
              · exact nfp hf
              · exact npc hf
          · obtain ⟨k1, u, k2, k3⟩ := B.lF a o h
            exact ⟨k1.elim (fun z => .inl (.inl z)) (fun z => by cases z.1), u, kp a u k2, k3⟩
        · show (W.φ ++ [(p, p)])[S.length]? = some (p, p)
          rw [← lens.1, List.getElem?_append_right (Nat.le_refl _), Nat.sub_self]
          rfl
  · exact q.elim
/-- from a def that lets no error out -/
theorem FnOk.calm {P : Program} {w : World} {K : PySem.W.Frag} {mg : Str → Option Value} {base : Heap} {k : Nat} {f : Addr} {fd : FuncData} {ps : List Str} {sp : Sp} (h : FnOk P w K mg base CX0 k f fd ps sp) : FnOk P w K mg base (L2.CX P w) k f fd ps sp := by
  refine ⟨h.len, fun A outer s H args us vs Q E hr e0 hb r q => codeAny_mono (h.run A outer s H args us vs Q E hr e0 hb r q) fun res s' z => ?_⟩
  cases res with
  | error e => exact (show False from z).elim
  | ok fl => cases fl <;> exact z
end Q
namespace Q
open PySem L2 PySem.Spec PyProof.Rows
/-! ### self.own_rows = {name: {} for name in ..}: the database is made -/
def C0.bl (c : C0) (L : List Addr) : C0 := { c with E := E0k, R := fun b => c.R b ∨ b ∈ L }
theorem TabsAt.snoc {H : Hp} {t : Addr} {n : Str} {ks : List (List Key)} (h : H t = some (.dT (ks.map fun k => (k, .bl true)))) : ∀ {kvs : List (Key × V)} {rows : List (Str × List (List Key))} {ts : List Addr}, TabsAt H kvs rows ts → TabsAt H (kvs ++ [(Sum.inr n, .ref t)]) (rows ++ [(n, ks)]) (ts ++ [t])
  | _, _, _, .nil => .cons h .nil
  | _, _, _, .cons a b => .cons a (b.snoc h)
end Q
namespace Q
open PySem L2 PySem.Spec PyProof.Rows
/-! ### the tables of a database are changed -/
theorem TabsAt.len {H : Hp} : ∀ {kvs : List (Key × V)} {rows : List (Str × List (List Key))} {ts : List Addr}, TabsAt H kvs rows ts → kvs.length = rows.length
  | _, _, _, .nil => rfl
  | _, _, _, .cons _ r => congrArg (· + 1) r.len
end Q
namespace Q
open PySem L2 PySem.Spec PyProof.Rows
section
variable {X : Cx}
/-! ### if (a if c else b) -/
def xIfT (c a b : Tx) : Tx := fun E st Q => c E st fun d st1 => if d = true then a E st1 Q else b E st1 Q
/-! ### in, as a test -/
end
end Q
/-! the end of a law -/
namespace Q
open PySem L2 PySem.Spec PyProof.Rows
def spLaw (K : PySem.W.Frag) : Sp := fun vs H Q _ => ∃ (a : Addr) (ns : List Int), vs = [.ref a] ∧ SqL K H a (ns.map V.int) ∧ ns.length ≤ 63 ∧ ∀ H', Q (.bl true) H'
theorem base_none {H : Hp} {F : Addr → Prop} (h : ∀ a, F a → ∃ o, H a = some o) : Base true ⟨[], [], F, []⟩ [] H :=
  ⟨h, ⟨rfl, rfl⟩, fun n a x w e => by simp at e, fun m n w w' x e => by simp at e, fun _ a ⟨w, hw, _⟩ => absurd hw List.not_mem_nil, List.nodup_nil, fun a o e => by simp at e⟩
theorem lock_nil (H : Hp) : lockH [] H = H := by
  funext a
  rfl
theorem law_sp {K : PySem.W.Frag} {m : MF} (hm : ∀ d ns, ScrD K d ns → ns.length ≤ 63 → m [d] (fun _ _ _ => False) [] fun o _ => o = .d (.bl true)) {vs : List V} {H : Hp} {Q : VK} {E : XK} (h : spLaw K vs H Q E) : spM true 1 m vs H Q E := by
  obtain ⟨a, ns, rfl, hs, hl, k⟩ := h
  have fin : ∀ (W : Wd), W.L = [] → ∀ (o : O) (S' : List Cell) (v : V) (W' : Wd) (H2 : Hp), o = O.d (.bl true) → Step true W H W' H2 → (∀ a, W'.F a → W.F a ∨ H a = none) → Base true W' S' H2 → W'.L = W.L → RO W' H H2 v o → Q v (lockH W.L H2) := by
    intro W _ o S' v W' H2 e _ _ _ _ r
    subst e
    have r' : Rp W' H2 v (.bl true) := r
    cases r'
    exact k _
  rcases hs with hs | hs
  · refine ⟨⟨[], [], fun b => b = a, []⟩, [], H, [.scr ns], _, _, (lock_nil H).symm, base_none fun b e => ?_, .cons (.scr rfl hs) .nil, rfl, hm _ ns (.inl rfl) hl, fin _ rfl, fun _ _ _ _ _ _ e => e.elim⟩
    subst e
    rcases hs with hs | ⟨o, hs⟩
    · exact ⟨_, hs⟩
    · exact ⟨_, hs⟩
  · exact ⟨⟨[], [], fun _ => False, []⟩, [], H, [.cls a], _, _, (lock_nil H).symm, base_none fun b e => e.elim, .cons (.cls a) .nil, rfl, hm _ ns (.inr ⟨a, rfl, hs⟩) hl, fin _ rfl, fun _ _ _ _ _ _ e => e.elim⟩
end Q
/-! repr of lists and tuples: where no repr is under way -/
namespace Q
open PySem L2 PySem.Spec PyProof.Rows
/-- a def's promise where no repr is under way -/
structure FnOkG (P : Program) (w : World) (K : PySem.W.Frag) (mg : Str → Option Value) (base : Heap) (CX : CXT) (k : Nat) (f : Addr) (fd : FuncData) (ps : List Str) (sp : Sp) : Prop where
  len : ∀ vs H Q E, sp vs H Q E → vs.length = ps.length
  run : ∀ (A : Around) (outer : List Env) (s : Shared) (H : Hp) (args : Args) (us : List Value) (vs : List V) (Q : VK) (E : XK), Room k A → A.guards = some [] → Env0 P w K mg base A outer s H → BindsTo s fd args (ps.zip us) → Vals vs us → sp vs H Q E →
    codeAny (model P w) A (.call (.ref f) args) (CR CX outer P w H s Q E) s
end Q
/-! defs that use repr of lists and tuples, and their callers -/
namespace Q
open PySem L2 PySem.Spec PyProof.Rows
theorem FnOk.g {P : Program} {w : World} {K : PySem.W.Frag} {mg : Str → Option Value} {base : Heap} {CX : CXT} {k : Nat} {f : Addr} {fd : FuncData} {ps : List Str} {sp : Sp} (F : FnOk P w K mg base CX k f fd ps sp) : FnOkG P w K mg base CX k f fd ps sp :=
  ⟨F.len, fun A outer s H args us vs Q E hr _ => F.run A outer s H args us vs Q E hr⟩
theorem FnOkG.imp {P : Program} {w : World} {K : PySem.W.Frag} {mg : Str → Option Value} {base : Heap} {CX : CXT} {k : Nat} {f : Addr} {fd : FuncData} {ps : List Str} {sp sp' : Sp} (F : FnOkG P w K mg base CX k f fd ps sp) (h : ∀ vs H Q E, sp' vs H Q E → sp vs H Q E) : FnOkG P w K mg base CX k f fd ps sp' :=
  ⟨fun vs H Q E q => F.len vs H Q E (h _ _ _ _ q), fun A outer s H args us vs Q E hr hg he hb hv hs => F.run A outer s H args us vs Q E hr hg he hb hv (h _ _ _ _ hs)⟩
section
variable {P : Program} {w : World} {K : PySem.W.Frag} {mg : Str → Option Value} {base : Heap}
/-- a def by its body, where no repr is under way -/
theorem okG {x qual : Str} {st : Stmt} {f : Addr} {fd : FuncData} {N ps : List Str} {k : Nat} {sp : Sp} (F : Fun K x qual st f fd) (S : FnScope N ps (defScope st)) (len : ∀ vs H Q E, sp vs H Q E → vs.length = ps.length)
    (hb : ∀ (cdv : Value) (A : Around) (outer : List Env) (s : Shared) (H : Hp) (vs : List V) (Q : VK) (E : XK), Room k (A.deeper (envOfC qual (defScope st) s.heap.objs.size f cdv)) → A.guards = some [] → sp vs H Q E →
      ∃ t, PSs (cxOf (L2.CX P w) P w K mg base N qual (defScope st) f cdv A outer s H E) (defBody st) t ∧ t { nx := fun _ H' => Q .non H', rt := Q } (start N vs) H) : FnOkG P w K mg base (L2.CX P w) (k + 1) f fd ps sp := by
  obtain ⟨oc, od, kV, doc, pm, an, cdv, ct, osl, rfl, at_, code⟩ := F.ex
  refine ⟨len, fun A outer s H args us vs Q E room free env0 bound vals want => ?_⟩
  have old := fun b o e => (env0.bs b o e).1
  have inK : K.In s.heap := env0.mod.kin.keeps old
  obtain ⟨t, body, goal⟩ := hb cdv A outer s H vs Q E (room.deeper _) free want
  refine codeAny_call_function room.depth (inK _ _ at_) rfl S.co S.gen rfl (PySem.W.codeRec_of inK code) (bound _ _ _ _ ?_)
  refine wpAny_newFunctionEnv_cells S.kind (fun y hy => ?_) fun env he s1 into => ?_
  · have := S.par y.1 (List.of_mem_zip (a := y.1) (b := y.2) hy).1
    exact this.imp_right fun q => ⟨q, PySem.W.cellsFrom_some _ _ _ (.inl q)⟩
  · cases he
    refine ⟨(env0.mod.nolimit.keeps old).keeps into.toInCall.keep, codeAny_func (wpAny_mono (body.run [] s1 _ H _ (inv_start S room.hd env0 (len _ _ _ _ want) vals into) goal) (fun fl s' ends => ?_) fun _ _ z => z)⟩
    cases fl with
    | ret u =>
      obtain ⟨v, _, H', J, rel, q⟩ := ends
      exact ⟨v, H', J.os, J.bare, J.base, J.hok, rel, q⟩
    | next =>
      obtain ⟨_, H', J, q⟩ := ends
      exact ⟨.non, H', J.os, J.bare, J.base, J.hok, (rfl : RelV V.non Value.none), q⟩
    | brk => exact ends.elim fun _ z => z.elim fun _ z => z.2.elim
    | cont => exact ends.elim fun _ z => z.elim fun _ z => z.2.elim
end
end Q
/-! super().__init__(..) as a statement of a def -/
namespace Q
open PySem L2 PySem.Spec PyProof.Rows
/-- statements at one activation -/
structure PSat (X : Cx) (c : Code) (st : List Stmt) (t : TS) : Prop where
  run : ∀ (pins : List (Addr × Obj)) (s : Shared) (σ : L2.St) (H : Hp) (D : Ends), L2.Inv X pins σ H s → t D σ H → PySem.wpAt (model X.prog X.w) X.A c (execs st X.env) (SP X pins D) X.xe s
section
variable {X : Cx} {c : Code}
theorem PSat.of {st : List Stmt} {t : TS} (h : PSs X st t) : PSat X c st t := ⟨fun pins s σ H D I q => PySem.wpAt_of_wpAny (h.run pins s σ H D I q)⟩
theorem PSat.cons {s1 : Stmt} {rest : List Stmt} {t1 t2 : TS} (h1 : PS X s1 t1) (h2 : PSat X c rest t2) : PSat X c (s1 :: rest) (fun D σ H => t1 { D with nx := fun σ' H' => t2 D σ' H' } σ H) := by
  refine ⟨fun pins s σ H D I q => PySem.ks_wpAt_execs_cons (PySem.wpAt_of_wpAny (thn (h1.run pins s σ H _ I q) fun fl s' z => ?_))⟩
  cases fl with
  | next =>
    obtain ⟨σ', H', J, n⟩ := z
    exact h2.run pins s' σ' H' D J n
  | ret u => exact z
  | brk => exact z
  | cont => exact z
theorem clsIn_at {K : PySem.W.Frag} {h : Heap} {D : Addr} (X : K.In h) (e : (PySem.W.clsIn K D).isSome = true) : ∃ o cd, h.get? D = some o ∧ o.data = .cls cd := by
  obtain ⟨cd, hc⟩ := Option.isSome_iff_exists.mp e
  unfold PySem.W.clsIn at hc
  split at hc
  · rename_i lk
    exact ⟨_, _, X _ _ lk, rfl⟩
  · cases hc
end
end Q
/-! a def that closes over __class__ -/
namespace Q
open PySem L2 PySem.Spec PyProof.Rows NdefX
section
variable {P : Program} {w : World} {K : PySem.W.Frag} {mg : Str → Option Value} {base : Heap}
theorem fn_sup {CX : CXT} {k : Nat} {f cc D : Addr} {F : NF} {dV kV doc pm ct oc cl : Value} {an od cld : Option Addr} {osl csl : Array (Option Value)} {N ps : List Str} {sp : Sp} (hF : F.cl = [(("__class__" : Str), cc)])
    (lk : K.lookup f = some ⟨oc, od, .func (PySem.W.fnX F.name F.qual F.params F.body F.scope F.cl dV kV doc pm an (.ref F.c) ct), osl⟩) (hcd : PySem.W.codeIn K (.ref F.c) F.qual = true) (hcell : K.lookup cc = some ⟨cl, cld, .cell (some (.ref D)), csl⟩)
    (S : NScope N ps ["__class__"] F.scope) (len : ∀ vs H Q E, sp vs H Q E → vs.length = ps.length)
    (hb : ∀ (A : Around) (outer : List Env) (s : Shared) (H : Hp) (vs : List V) (Q : VK) (E : XK), Room k (A.deeper (envF F f s.heap.objs.size)) → sp vs H Q E →
      ∃ t, PSat (ncx CX P w K mg base N F f A outer s H E) (.func F.body (envF F f s.heap.objs.size)) F.body t ∧ t { nx := fun _ H' => Q .non H', rt := Q } (startF N vs [some (.ref D)]) H) :
    FnOk P w K mg base CX (k + 1) f (PySem.W.fnX F.name F.qual F.params F.body F.scope F.cl dV kV doc pm an (.ref F.c) ct) ps sp := by
  refine ⟨len, fun A outer s H args us vs Q E room env0 bound vals want => ?_⟩
  have old := fun b o e => (env0.bs b o e).1
  have inK : K.In s.heap := env0.mod.kin.keeps old
  obtain ⟨t, body, goal⟩ := hb A outer s H vs Q E (room.deeper _) want
  have cells : CellsAt F.cl ["__class__"] [some (.ref D)] s.heap H := by
    have cat := inK _ _ hcell
    have free : H cc = none := (env0.bs cc _ (env0.mod.kin _ _ hcell)).2
    rw [hF]
    have one : ∀ {y : Str} {c : Addr}, List.lookup y [(("__class__" : Str), cc)] = some c → y = "__class__" ∧ c = cc := fun {y c} z => by
      rw [List.lookup_cons] at z
      cases q : (y == ("__class__" : Str)) with
      | true => rw [q] at z; exact ⟨eq_of_beq q, (Option.some.inj z).symm⟩
      | false => rw [q] at z; cases z
    refine ⟨rfl, fun y c z => ?_, fun a b c z1 z2 => (one z1).1.trans (one z2).1.symm, fun i y z => ?_⟩
    · rw [(one z).2]
      exact ⟨free, _, _, cat, rfl⟩
    · match i, z with
      | 0, z =>
        cases z
        exact ⟨cc, rfl, fun v z => ⟨.ref D, by cases z; rfl, _, cat, rfl⟩⟩
  refine PySem.ks_codeAny_call_defAt (fd := PySem.W.fnX F.name F.qual F.params F.body F.scope F.cl dV kV doc pm an (.ref F.c) ct) (binds := ps.zip us) room.depth (inK _ _ lk) rfl (env0.mod.nolimit.keeps old) (PySem.W.codeRec_of inK hcd) rfl bound S.nocell (fun y hy => S.par y.1 (List.of_mem_zip (a := y.1) (b := y.2) hy).1) (fun h1 hns keep => ?_) S.co S.gen S.kind
  refine PySem.ks_wpAt_mono (body.run [] _ _ H _ (inv_startN S room.hd env0 (len _ _ _ _ want) vals cells hns keep) goal) (fun fl s' ends => ?_) fun _ _ z => z
  cases fl with
  | ret u =>
    obtain ⟨v, _, H', J, rel, q⟩ := ends
    exact ⟨v, H', J.os, J.bare, J.base, J.hok, rel, q⟩
  | next =>
    obtain ⟨_, H', J, q⟩ := ends
    exact ⟨.non, H', J.os, J.bare, J.base, J.hok, (rfl : L2.RelV V.non Value.none), q⟩
  | brk => exact ends.elim fun _ z => z.elim fun _ z => z.2.elim
  | cont => exact ends.elim fun _ z => z.elim fun _ z => z.2.elim
end
end Q
/-! constructors with keywords -/
namespace Q
open PySem L2 PySem.Spec PyProof.Rows
section
variable {X : Cx}
def PXK (X : Cx) (kws : List Keyword) (f : Ax) : Prop := ∀ c, Lk X c → PK X kws (tXA c f)
theorem pxk_nil : PXK X [] xNil := fun c l => ⟨fun pos pins s σ H Q I h => by
  obtain ⟨W, st, H1, Q0, rfl, P, q, k⟩ := h
  exact pk_nil.run pos pins s σ _ _ I (k _ _ _ _ _ q (Step.refl _ _ _) P .nil)⟩
theorem pxk_cons {e : Expr} {kws : List Keyword} {f : Ex} {ga : Ax} {nm : Option Str} {kp : Pos} (h : PX X e f) (hr : PXK X kws ga) : PXK X (⟨nm, e, kp⟩ :: kws) (xCons f ga) := fun c l =>
  ⟨fun pos pins s σ H Q I q => (pk_cons (h c l) (hr c l)).run pos pins s σ H Q I (args_go q)⟩
theorem RVs.len {W : Wd} {σ : L2.St} {H : Hp} : ∀ {vs : List V} {rs : List R}, RVs W σ H vs rs → vs.length = rs.length
  | _, _, .nil => rfl
  | _, _, .cons _ t => congrArg (· + 1) (RVs.len t)
theorem RVs.app {W : Wd} {σ : L2.St} {H : Hp} : ∀ {vs us : List V} {rs qs : List R}, RVs W σ H vs rs → RVs W σ H us qs → RVs W σ H (vs ++ us) (rs ++ qs)
  | _, _, _, _, .nil, h => h
  | _, _, _, _, .cons a t, h => .cons a (RVs.app t h)
end
end Q
/-! constructors that call super().__init__, over plain data -/
namespace Q
open PySem L2 PySem.Spec PyProof.Rows NdefX
/-- a def of the class D that closes over __class__ -/
abbrev nfOf (st : Stmt) (x qual : Str) (cc c : Addr) : NF := ⟨x, qual, defArgs st, defBody st, defScope st, [(("__class__" : Str), cc)], c⟩
structure FunS (K : PySem.W.Frag) (x qual : Str) (st : Stmt) (f : Addr) (fd : FuncData) (cc c D : Addr) : Prop where
  ex : ∃ (oc kV doc pm ct cl : Value) (od an cld : Option Addr) (osl csl : Array (Option Value)), fd = PySem.W.fnX x qual (defArgs st) (defBody st) (defScope st) [(("__class__" : Str), cc)] .none kV doc pm an (.ref c) ct ∧ K.lookup f = some ⟨oc, od, .func fd, osl⟩ ∧ K.lookup cc = some ⟨cl, cld, .cell (some (.ref D)), csl⟩
  code : PySem.W.codeIn K (.ref c) qual = true
  kp : PySem.W.keepIn K (.ref f) = true
end Q
/-! sorted of texts: a list, a tuple, the keys of a dict -/
/-! o(..): an instance whose class has __call__ -/
/-! items() of a dict whose keys are tuples -/
/-! sorted of a tuple of texts; sorted(d.items()) of at most one item -/
/-! a dict display of one pair; sorted, items of tuple keys over plain data -/
namespace Q
open PySem L2 PySem.Spec PyProof.Rows L2.DX
section
variable {X : Cx}
def tDisp1 (t : Bool) (tk tv : TE) : TE := fun σ H Q => ∀ p, H p = none → tk σ (upd H p (noKeys t)) fun y H1 => tv σ H1 fun z H2 => ∃ H3, DPut H2 p y z H3 ∧ Q (.ref p) H3
theorem pe_disp1 {t : Bool} {k v : Expr} {pos : Pos} {tk tv : TE} (hu : X.A.units < cLine) (hk : PE X k tk) (hv : PE X v tv) : PE X (.Dict [some k] [v] pos) (tDisp1 t tk tv) := ⟨fun pins s σ H Q I h => by
  have hn := I.hok.fresh (Nat.le_refl s.heap.objs.size)
  have I1 := I.laid (a := s.heap.objs.size) (o := noKeys t) (h' := s.heap.push { cls := .type "dict", data := .dict #[] }) (t' := s.toks) (fun _ _ q => Heap.get?_push_of_some _ q) (Nat.le_refl _) (noKeys_ok t s.heap I.big)
  refine wpAny_Dict_any rfl rfl (by simp) (by simp) (pairTrees_cons_walk (thn (hk.run pins _ σ _ _ I1 (h _ hn)) fun u s1 ⟨y, H1, I2, ry, q1⟩ => thn (hv.run pins s1 σ H1 _ I2 q1) fun u2 s2 ⟨z, H2, I3, rz, H3, dp, q2⟩ => pairTrees_nil_walk ?_))
  unfold storeAll
  rw [List.forIn_cons]
  exact wpAny_bind (wpAny_bind (set_any hu I3 dp ry rz fun s' I4 => wpAny_pure (wpAny_pure ⟨.ref s.heap.objs.size, H3, I4, rfl, q2⟩)))⟩
def xDi (t : Bool) (fk fv : Ex) : Ox := fun E st Q => fk E0k st fun r st1 => opt (frz st1 r) fun q => fv E0k q.2 fun r2 st2 => opt (frz st2 r2) fun q2 => opt (putO (noKeysO t) q.1 q2.1) fun o => Q o q2.2
theorem po_di {t : Bool} {k v : Expr} {pos : Pos} {fk fv : Ex} (hu : X.A.units < cLine) (hk : PX X k fk) (hv : PX X v fv) : PO X (.Dict [some k] [v] pos) (xDi t fk fv) := fun c l =>
  peOf (pe_disp1 hu (pe_any c hk) (pe_any c hv)) fun σ H Q ⟨W, st, H1, Q0, hH, P, q, kk⟩ => fun D hD => by
    subst hH
    obtain ⟨d1, d2⟩ := P.lnone' hD
    obtain ⟨sD, PD, f1, f2, f3, f4, f5⟩ := P.fresh (o := noKeys t) d1
    have PB : Pre (c.blk D) W st σ (upd H1 D (noKeys t)) := (PD.res ⟨f1, f2, ⟨_, upd_same⟩, f4⟩).ctx rfl rfl rfl fun _ z => z
    have dwn : ∀ {Wx Wy Hx Hy ox stx}, Pre (c.blk D) Wx stx σ Hx → Step c.rw Wx Hx Wy Hy → OwnAt Wx Hx D ox → OwnAt Wy Hy D ox := fun {Wx Wy Hx Hy ox stx} Px sx hx => by
      obtain ⟨u, hu, _⟩ := hx.there
      exact hx.fut (Px.fut sx) (by rw [hu]; exact blk_at Px sx hu)
    refine ⟨D, W, st, _, _, lock_upd d2, PB, q, fun r st7 v W7 H7 q7 s7 P7 rv => ?_⟩
    obtain ⟨⟨y, st8⟩, e8, q8⟩ := opt_ex q7
    obtain ⟨W8, s8, P8, r8, eL⟩ := frz_ok P7 e8 rv
    rw [← eL]
    refine ⟨D, W8, st8, H7, _, rfl, P8, q8, fun r2 st9 v2 W9 H9 q9 s9 P9 rv2 => ?_⟩
    obtain ⟨⟨y2, st10⟩, e10, q10⟩ := opt_ex q9
    obtain ⟨acc', e11, q11⟩ := opt_ex q10
    obtain ⟨W10, s10, P10, r10, eL2⟩ := frz_ok P9 e10 rv2
    have x10 := dwn P9 s10 (dwn P8 s9 (dwn P7 s8 (dwn PB s7 (noKeys_own t))))
    have ry : Rp W10 H9 v y := (r8.fut (P8.fut s9)).fut (P9.fut s10)
    have ul := P10.lown (P10.rsv D (.inr rfl)).1 (P10.rsv D (.inr rfl)).2.1
    have hl : lenO (noKeysO t) < sizeLine := by cases t <;> (rw [sizeLine_eq]; decide)
    obtain ⟨u, u', hu', hm, dp, ho', _, nw⟩ := put_ok P10 x10 ul ry.top r10 hl e11
    obtain ⟨P11, f11⟩ := P10.mutR (u' := u') (.inr rfl) f3 hu' hm
    rw [← eL2]
    refine ⟨_, dp, ?_⟩
    rw [lock_upd ul]
    obtain ⟨k1, k2, k3, k4⟩ := P11.rsv D (.inr rfl)
    exact kk _ _ _ _ _ q11 ((((((sD.trans s7).trans s8).trans s9).trans s10)).updN d1) (P11.ctx rfl rfl rfl fun _ z => .inl z) (OV.of_own ho' ⟨nw f11, k1, k2, f3, k4, f5⟩)
end
end Q
namespace Q
open PySem L2 PySem.Spec PyProof.Rows L2.DX
section
variable {X : Cx}
/-! ### sorted of texts -/
/-! ### items of tuple keys -/
/-! ### sorted(e.items()) -/
theorem Pre.ext {c : C0} {W : Wd} {st : Ps} {σ : L2.St} {H H' : Hp} (P : Pre c W st σ H) (h : ∀ b o, lockH W.L H b = some o → H' b = some o) : ∃ H2, H' = lockH W.L H2 ∧ Step c.rw W H W H2 ∧ Pre c W st σ H2 := by
  refine ⟨fun b => match H b with
    | some u => some u
    | none => H' b, ?_, ?_⟩
  · funext b
    unfold lockH
    cases e : H b with
    | none =>
      rw [P.lnone e]
      dsimp only
      rw [e]
    | some u =>
      have h2 := h b
      unfold lockH at h2
      cases m : W.L.lookup b with
      | none =>
        rw [m] at h2
        dsimp only
        rw [e]
        exact h2 _ e
      | some ob =>
        rw [m] at h2
        dsimp only
        rw [e]
        exact h2 _ (by rw [e]; rfl)
  · have s : ∀ rw, Step rw W H W (fun b => match H b with
      | some u => some u
      | none => H' b) := fun rw => ⟨fun _ _ e => e, fun _ z => z, fun a o e _ => by rw [e], fun a xs e => by rw [e], (fun a e => by
        show (match H a with
          | some u => some u
          | none => H' a) ≠ none
        cases q : H a with
        | none => exact absurd q e
        | some u => exact fun z => by cases z), fun _ z => .inl z, ⟨[], rfl⟩, fun _ z => .inl z⟩
    exact ⟨s _, P.call (s _) (fun a z => .inl z) (P.base.later (s false))⟩
end
end Q
/-! the end of a law whose def uses repr of lists: no repr is under way at the caller -/
namespace Q
open PySem L2 PySem.Spec PyProof.Rows
section
variable {P : Program} {w : World} {K : PySem.W.Frag} {mg mb : Str → Option Value} {s : Shared} {a : Addr} {us : List Value} {ns : List Int}
/-- the heap in which at most the script is tracked, frozen -/
structure ScrH (P : Program) (w : World) (K : PySem.W.Frag) (s : Shared) (a : Addr) (us : List Value) (H : Hp) : Prop where
  only : ∀ b u, H b = some u → b = a ∧ ∃ xs, u = .frz { cls := .type "list", data := .seq us.toArray } (.lst xs)
  own : H a ≠ none → K.lookup a = none
  ok : HOk P w H s.heap
theorem ScrH.other {H : Hp} (S : ScrH P w K s a us H) (ha : s.heap.get? a = some { cls := .type "list", data := .seq us.toArray }) {b : Addr} {o : Obj} (hb : s.heap.get? b = some o) (hs : o ≠ { cls := .type "list", data := .seq us.toArray }) : (hidT s.heap H).get? b = some o := by
  refine hidT_get hb ?_
  rcases z : H b with _ | u
  · rfl
  · obtain ⟨rfl, _⟩ := S.only b u z
    exact absurd (Option.some.inj (hb.symm.trans ha)) hs
theorem ScrH.nsp {H : Hp} (S : ScrH P w K s a us H) (ha : s.heap.get? a = some { cls := .type "list", data := .seq us.toArray }) {b : Addr} {m : Str → Option Value} (h : s.heap.Ns b m) : (hidT s.heap H).Ns b m := by
  obtain ⟨o, es, ep, e, d, r⟩ := h
  refine ⟨o, es, ep, S.other ha e fun z => ?_, d, r⟩
  rw [z] at d
  cases d
theorem ScrH.kin {H : Hp} (S : ScrH P w K s a us H) (ha : s.heap.get? a = some { cls := .type "list", data := .seq us.toArray }) (KX : K.In s.heap) : K.In (hidT s.heap H) := fun b o e => by
  refine hidT_get (KX b o e) ?_
  rcases z : H b with _ | u
  · rfl
  · obtain ⟨rfl, _⟩ := S.only b u z
    rw [S.own (by rw [z]; exact fun q => by cases q)] at e
    cases e
theorem lawG_run {CX : CXT} {k : Nat} {fa : Addr} {fd : FuncData} {x : Str} {sp : Sp} {H : Hp} (S : ScrH P w K s a us H) (ha : s.heap.get? a = some { cls := .type "list", data := .seq us.toArray })
    (KX : K.In s.heap) (hns : s.heap.Ns mainGlobals mg) (hb : s.heap.Ns builtinsNs mb) (hbb : ∀ x : Str, x ≠ "__name__" → mb x = bootBuiltins x) (hlim : s.heap.NoLimit) (hg : s.gens = #[]) (hr : Room k callerA)
    (hm : ∃ mm, s.heap.Ns sysModules mm) (F : ∀ base : Heap, K.In base → base.Ns mainGlobals mg → (∃ o, base.get? sysModules = some o) → FnOkG P w K mg base CX k fa fd [x] sp) (hbind : ∀ (s : Shared) (u : Value), BindsTo s fd ⟨[u], []⟩ [(x, u)])
    (hsp : sp [.ref a] H (fun v _ => v = .bl true) fun _ _ _ => False) (hCX : ∀ H e s', CX [] H s (fun _ _ _ => False) e s' → False) :
    codeAny (model P w) callerA (.call (.ref fa) ⟨[.ref a], []⟩) (fun r s' => r = .ok (.ret (.bool true)) ∧ OldK s.heap s'.heap ∧ s'.os = s.os ∧ AllBare s'.gens) s := by
  obtain ⟨mc, l1, l2⟩ := hlim
  have mod : Mod K mg (hidT s.heap H) := ⟨S.kin ha KX, S.nsp ha hns, ⟨mb, S.nsp ha hb, hbb⟩, mc, S.nsp ha l1, l2⟩
  have mods : ∃ o, (hidT s.heap H).get? sysModules = some o := by
    obtain ⟨mm, h⟩ := hm
    obtain ⟨o, es, ep, e, _⟩ := S.nsp ha h
    exact ⟨o, e⟩
  have env : Env0 P w K mg (hidT s.heap H) callerA [] s H := ⟨rfl, mod, fun b o => of_hidT, Nat.le_of_eq (hidT_size _ _), trivial, fun b z => absurd (show b ∈ ([] : List Addr) from z) List.not_mem_nil, S.ok, .of_eq hg⟩
  refine codeAny_mono ((F _ mod.kin mod.glob mods).run callerA [] s H ⟨[.ref a], []⟩ [.ref a] [.ref a] (fun v _ => v = .bl true) (fun _ _ _ => False) hr rfl env (hbind s (.ref a)) (.cons rfl .nil) hsp) fun res s' out => ?_
  match res, out with
  | .error e, out => exact (hCX H e s' out).elim
  | .ok (.ret u), out =>
    obtain ⟨v, H', os, bare, un, ok', rel, ev⟩ := out
    subst ev
    cases (show u = Value.bool true from rel)
    refine ⟨rfl, .of_keep fun b o e => ?_, os, bare⟩
    rcases z : H b with _ | y
    · exact un.keep b o e z (fun q => absurd (show b ∈ ([] : List Addr) from q) List.not_mem_nil) List.not_mem_nil
    · obtain ⟨rfl, xs, rfl⟩ := S.only b y z
      rw [e] at ha
      cases ha
      exact (ok' b _ (un.frzs b _ _ z)).1
  | .ok .next, out => exact False.elim out
  | .ok .brk, out => exact False.elim out
  | .ok .cont, out => exact False.elim out
theorem lawG_call {CX : CXT} {k : Nat} {fa : Addr} {fd : FuncData} {x : Str} {sp : Sp} (KX : K.In s.heap) (hns : s.heap.Ns mainGlobals mg) (hb : s.heap.Ns builtinsNs mb) (hbb : ∀ x : Str, x ≠ "__name__" → mb x = bootBuiltins x) (hlim : s.heap.NoLimit) (hg : s.gens = #[])
    (ha : s.heap.get? a = some { cls := .type "list", data := .seq us.toArray }) (hi : IntsAre us ns) (hl : ns.length ≤ sizeLine) (hr : Room k callerA)
    (hm : ∃ mm, s.heap.Ns sysModules mm) (F : ∀ base : Heap, K.In base → base.Ns mainGlobals mg → (∃ o, base.get? sysModules = some o) → FnOkG P w K mg base CX k fa fd [x] sp) (hbind : ∀ (s : Shared) (u : Value), BindsTo s fd ⟨[u], []⟩ [(x, u)])
    (hsp : ∀ H : Hp, SqL K H a (ns.map V.int) → sp [.ref a] H (fun v _ => v = .bl true) fun _ _ _ => False) (hCX : ∀ H e s', CX [] H s (fun _ _ _ => False) e s' → False) :
    codeAny (model P w) callerA (.call (.ref fa) ⟨[.ref a], []⟩) (fun r s' => r = .ok (.ret (.bool true)) ∧ OldK s.heap s'.heap ∧ s'.os = s.os ∧ AllBare s'.gens) s := by
  have rv : Vals (ns.map V.int) us := vals_ints hi
  by_cases hk : K.lookup a = none
  · have S : ScrH P w K s a us (fun b => if b = a then some (.frz { cls := .type "list", data := .seq us.toArray } (.lst (ns.map V.int))) else none) := by
      refine ⟨fun b u z => ?_, fun _ => hk, fun b u z => ?_⟩ <;> by_cases e : b = a
      · exact ⟨e, _, (Option.some.inj ((if_pos e).symm.trans z)).symm⟩
      · exact nomatch (if_neg e).symm.trans z
      · obtain rfl := Option.some.inj ((if_pos e).symm.trans z)
        subst e
        exact ⟨ha, by rw [List.length_map]; exact hl, us, _, rv, ha⟩
      · exact nomatch (if_neg e).symm.trans z
    exact lawG_run S ha KX hns hb hbb hlim hg hr hm F hbind (hsp _ (.inl (.inr ⟨_, if_pos rfl⟩))) hCX
  · obtain ⟨o, ho⟩ := Option.ne_none_iff_exists'.mp hk
    have e := (KX a o ho).symm.trans ha
    cases e
    refine lawG_run (H := fun _ => none) ⟨fun b u z => (by cases z), fun z => absurd rfl z, fun b u z => (by cases z)⟩ ha KX hns hb hbb hlim hg hr hm F hbind (hsp _ (.inr ⟨_, us.toArray, _, ho, rfl, rfl, rfl, by rw [List.size_toArray, hi.length]; exact hl, by simpa using rv⟩)) hCX
end
end Q
/-! repr of lists, tuples and dicts with tuple keys: where no repr is under way -/
namespace Q
open PySem L2 PySem.Spec PyProof.Rows
def kP : Key → PyData
  | .inl i => .int i
  | .inr s => .str s
mutual
inductive DQ (H : Hp) : V → PyData → Prop
  | non : DQ H .non .none
  | bl (b : Bool) : DQ H (.bl b) (.bool b)
  | int (i : Int) : DQ H (.int i) (.int i)
  | str (x : Str) : DQ H (.str x) (.str x)
  | lst {a : Addr} {xs : List V} {ps : List PyData} : H a = some (.lst xs) → DQs H xs ps → DQ H (.ref a) (.list ps)
  | tup {a : Addr} {xs : List V} {ps : List PyData} : H a = some (.tup xs) → DQs H xs ps → DQ H (.ref a) (.tuple ps)
  | dT {a : Addr} {xs : List (List Key × V)} {ps : List (PyData × PyData)} : Rd H a (.dT xs) → DQt H xs ps → DQ H (.ref a) (.dict ps)
inductive DQs (H : Hp) : List V → List PyData → Prop
  | nil : DQs H [] []
  | cons {v : V} {p : PyData} {vs : List V} {ps : List PyData} : DQ H v p → DQs H vs ps → DQs H (v :: vs) (p :: ps)
inductive DQt (H : Hp) : List (List Key × V) → List (PyData × PyData) → Prop
  | nil : DQt H [] []
  | cons {k : List Key} {v : V} {p : PyData} {vs : List (List Key × V)} {ps : List (PyData × PyData)} : DQ H v p → DQt H vs ps → DQt H ((k, v) :: vs) ((.tuple (k.map kP), p) :: ps)
end
section
variable {X : Cx} {pins : List (Addr × Obj)} {σ : L2.St} {H : Hp} {s : Shared}
theorem keyQ {k : Key} {u : Value} (r : RelV (kV k) u) : Reads s.heap u (kP k) [] := by
  cases k with
  | inl i => obtain ⟨t, rfl⟩ := r; exact .int i t
  | inr x => obtain ⟨t, rfl⟩ := r; exact .str x t
theorem keysQ : ∀ {ks : List Key} {us : List Value}, Vals (ks.map kV) us → ReadsAll s.heap us (ks.map kP) []
  | [], _, r => by cases r; exact .nil
  | k :: ks, _, r => by
    cases r with
    | cons r1 r2 => exact ReadsAll.cons (as := []) (bs := []) (keyQ r1) (keysQ r2)
theorem tupQ (I : L2.Inv X pins σ H s) {q : Addr} {ks : List Key} (h : H q = some (.tup (ks.map kV))) : Reads s.heap (.ref q) (.tuple (ks.map kP)) [] := by
  obtain ⟨its, rv, ⟨o, ho, hc, n, hd⟩, _⟩ := I.tuple (SqT.of (K := X.K) h)
  refine .tuple ho hc hd ?_
  have : its.toArray.toList = its := by simp
  rw [this]
  exact keysQ rv
mutual
theorem DQ.reads (I : L2.Inv X pins σ H s) (hb : H sysModules = none) : ∀ {p : PyData} {v : V} {u : Value}, DQ H v p → RelV v u → ∃ as, Reads s.heap u p as ∧ sysModules ∉ as
  | .none, _, _, h, r => by
    cases h
    cases r
    exact ⟨_, .none, List.not_mem_nil⟩
  | .bool b, _, _, h, r => by
    cases h
    cases r
    exact ⟨_, .bool b, List.not_mem_nil⟩
  | .int i, _, _, h, r => by
    cases h
    obtain ⟨t, rfl⟩ := r
    exact ⟨_, .int i t, List.not_mem_nil⟩
  | .str x, _, _, h, r => by
    cases h
    obtain ⟨t, rfl⟩ := r
    exact ⟨_, .str x t, List.not_mem_nil⟩
  | .list ps, _, _, h, r => by
    cases h with
    | lst h1 h2 =>
      cases r
      rename_i a xs
      obtain ⟨its, rv, ⟨o, n, ho, hc, _, hd⟩, _⟩ := I.list (SqL.of (K := X.K) h1)
      obtain ⟨as, q, no⟩ := DQs.reads I hb h2 rv
      have e : its.toArray.toList = its := by simp
      refine ⟨a :: as, .list ho hc hd (by rw [e]; exact q), fun z => ?_⟩
      rcases List.mem_cons.mp z with z | z
      · rw [← z, hb] at h1
        cases h1
      · exact no z
  | .tuple ps, _, _, h, r => by
    cases h with
    | tup h1 h2 =>
      cases r
      obtain ⟨its, rv, ⟨o, ho, hc, n, hd⟩, _⟩ := I.tuple (SqT.of (K := X.K) h1)
      obtain ⟨as, q, no⟩ := DQs.reads I hb h2 rv
      have e : its.toArray.toList = its := by simp
      exact ⟨as, .tuple ho hc hd (by rw [e]; exact q), no⟩
  | .dict ps, _, _, h, r => by
    cases h with
    | dT h1 h2 =>
      cases r
      rename_i a xs
      obtain ⟨_, hd, ys, rel, o, es, ep, ho, hx, hdat, he, _⟩ := dt_rd I.hok h1
      obtain ⟨bs, q1, q2, no⟩ := DQt.reads I hb h2 rel
      have e1 : es.toList.map (·.key) = ys.map fun y => Value.ref y.2.1 := by rw [he, List.map_map]; rfl
      have e2 : es.toList.map (·.val) = ys.map fun y => y.2.2 := by rw [he, List.map_map]; rfl
      refine ⟨a :: [] ++ bs, .dict ho hx.1 hdat (by rw [e1]; exact q1) (by rw [e2]; exact q2), fun z => ?_⟩
      rcases List.mem_cons.mp z with z | z
      · rw [z] at hd
        exact absurd hd (by simp)
      · exact no z
theorem DQs.reads (I : L2.Inv X pins σ H s) (hb : H sysModules = none) : ∀ {ps : List PyData} {vs : List V} {us : List Value}, DQs H vs ps → Vals vs us → ∃ as, ReadsAll s.heap us ps as ∧ sysModules ∉ as
  | [], _, _, h, r => by
    cases h
    cases r
    exact ⟨_, .nil, List.not_mem_nil⟩
  | p :: ps, _, _, h, r => by
    cases h with
    | cons h1 h2 =>
      cases r with
      | cons r1 r2 =>
        obtain ⟨as, q1, n1⟩ := DQ.reads I hb h1 r1
        obtain ⟨bs, q2, n2⟩ := DQs.reads I hb h2 r2
        exact ⟨_, .cons q1 q2, fun z => (List.mem_append.mp z).elim n1 n2⟩
theorem DQt.reads (I : L2.Inv X pins σ H s) (hb : H sysModules = none) : ∀ {ps : List (PyData × PyData)} {kvs : List (List Key × V)} {ys : List (List Key × Addr × Value)}, DQt H kvs ps → KT H kvs ys → ∃ bs, ReadsAll s.heap (ys.map fun y => Value.ref y.2.1) (ps.map (·.1)) [] ∧ ReadsAll s.heap (ys.map fun y => y.2.2) (ps.map (·.2)) bs ∧ sysModules ∉ bs
  | [], _, _, h, r => by
    cases h
    cases r
    exact ⟨_, .nil, .nil, List.not_mem_nil⟩
  | (k, p) :: ps, _, _, h, r => by
    cases h with
    | cons h1 h2 =>
      cases r with
      | cons r1 r2 =>
        obtain ⟨_, r12, r13⟩ := r1
        obtain ⟨as, q1, n1⟩ := DQ.reads I hb h1 r13
        obtain ⟨bs, q2, q3, n2⟩ := DQt.reads I hb h2 r2
        exact ⟨_, ReadsAll.cons (as := []) (bs := []) (tupQ I r12) q2, .cons q1 q3, fun z => (List.mem_append.mp z).elim n1 n2⟩
end
end
/-- what is shown of lists and tuples -/
def showsQ (p : PyData) (J : O → Prop) : Prop := p.showable = true ∧ p.depth ≤ 60 ∧ p.shown.length ≤ sizeLine ∧ J (.d (.str p.shown))
/-- != of two texts -/
def neS : D → D → Option O
  | .str a, .str b => some (.d (.bl (!decide (a = b))))
  | _, _ => none
end Q
namespace Q
open PySem L2 PySem.Spec PyProof.Rows
theorem g_neS : OpG rNe neS := fun c W st σ H v1 v2 d1 d2 o Q P t1 t2 e h => by
  unfold neS at e
  split at e
  · rename_i a b
    cases e
    cases t1
    cases t2
    refine ⟨by trivial, ?_⟩
    have : (decide (V.str a = V.str b)) = decide (a = b) := by
      rw [Bool.eq_iff_iff]
      simp
    show Q (.bl (!decide (V.str a = V.str b))) _
    rw [this]
    exact h.d P (.bl _)
  · cases e
section
variable {P : Program} {w : World} {K : PySem.W.Frag} {mg : Str → Option Value} {base : Heap}
/-- a def's body as a function of plain data, where no repr is under way -/
theorem fnMG {x qual : Str} {st : Stmt} {f : Addr} {fd : FuncData} {N ps : List Str} {k : Nat} {b : Sx} {rw : Bool} (F : Fun K x qual st f fd) (S : FnScope N ps (defScope st)) (hN : ps.length ≤ N.length)
    (hb : ∀ (cdv : Value) (A : Around) (outer : List Env) (s : Shared) (H : Hp) (E : XK), A.guards = some [] → Room k (A.deeper (envOfC qual (defScope st) s.heap.objs.size f cdv)) → PXB (cxOf (L2.CX P w) P w K mg base N qual (defScope st) f cdv A outer s H E) (defBody st) b) :
    FnOkG P w K mg base (L2.CX P w) (k + 1) f fd ps (spM rw ps.length (mk rw N.length b)) := by
  refine okG F S (fun vs H Q E h => ?_) fun cdv A outer s H vs Q E hr hg h => ?_
  · obtain ⟨W, S', H1, ds, Q0, E0, _, _, r, hl, _⟩ := h
    rw [r.length]
    exact hl
  · obtain ⟨W, S', H1, ds, Q0, E0, rfl, B, r, hl, q, kr, ke⟩ := h
    have hb' := hb cdv A outer s (lockH W.L H1) E hg hr
    refine ⟨_, pssUnl (hb' ⟨W, H1, rw, fun C fs st => E0 C fs st.S, fun _ => False⟩ ?_), ?_⟩
    · refine Takes.imp (takesUnl (takes_of rfl rfl rfl rfl)) ?_
      rintro cls od σ H ⟨W', st', H2, C, fs, rfl, P', rfl, ex, e0⟩
      obtain ⟨un, s1, B1⟩ := P'.exit (X := cxOf (L2.CX P w) P w K mg base N qual (defScope st) f cdv A outer s (lockH W.L H1) E) B (fun _ _ _ z => z)
      exact ⟨_, un, ke C fs st'.S od _ H2 e0 s1 P'.new B1 rfl ex⟩
    · refine ⟨W, st0 rw N.length ds S', H1, ⟨fun st => Q0 (.d .non) st.S, fun o st => Q0 o st.S, fun _ => False, fun _ => False⟩, rfl, pre0 B r (by omega), ⟨fun st' W' σ' H2 q' P' _ => ?_, fun o st' W' σ' H2 v q' P' _ ov => ?_, fun st' W' σ' H2 q' P' _ => q'.elim, fun st' W' σ' H2 q' P' _ => q'.elim⟩, q⟩
      · obtain ⟨un, s1, B1⟩ := P'.exit (X := cxOf (L2.CX P w) P w K mg base N qual (defScope st) f cdv A outer s (lockH W.L H1) E) B (fun _ _ _ z => z)
        exact ⟨_, un, kr _ _ _ _ H2 q' s1 P'.new B1 rfl (.non : Rp W' H2 .non .non)⟩
      · obtain ⟨un, s1, B1⟩ := P'.exit (X := cxOf (L2.CX P w) P w K mg base N qual (defScope st) f cdv A outer s (lockH W.L H1) E) B (fun _ _ _ z => z)
        exact ⟨_, un, kr _ _ _ _ H2 q' s1 P'.new B1 rfl (RO.of_OV ov)⟩
end
end Q
namespace Q
open PySem L2 PySem.Spec PyProof.Rows NdefX
section
variable {P : Program} {w : World} {K : PySem.W.Frag} {mg : Str → Option Value} {base : Heap}
theorem vals_app : ∀ {vs us : List V} {as bs : List Value}, Vals vs as → Vals us bs → Vals (vs ++ us) (as ++ bs)
  | _, _, _, _, .nil, h => h
  | _, _, _, _, .cons a t, h => .cons a (vals_app t h)
theorem FunS.kbn {x qual : Str} {st : Stmt} {f D cc c : Addr} {fd : FuncData} {ps ks : List Str} {n : Nat} (F : FunS K x qual st f fd cc c D)
    (h : ∀ (kV doc pm ct : Value) (an : Option Addr) (us ws : List Value), us.length = n → ws.length = ks.length → bindArgs (PySem.W.fnX x qual (defArgs st) (defBody st) (defScope st) [(("__class__" : Str), cc)] .none kV doc pm an (.ref c) ct) ⟨us, ks.zip ws⟩ = pure (ps.zip (us ++ ws))) :
    KBn K fd ps n ks (fun us ws => us ++ ws) fun vs zs => vs ++ zs := by
  obtain ⟨oc, kV, doc, pm, ct, cl, od, an, cld, osl, csl, rfl, at_, cell⟩ := F.ex
  exact ⟨fun s us ws _ h1 h2 => .of_eq (h kV doc pm ct an us ws h1 h2), fun a b => vals_app a b⟩
end
end Q
/-! a def whose whole body reads the tables of databases as plain data; it changes nothing and tells something flat -/
namespace Q
open PySem L2 PySem.Spec PyProof.Rows
def Wd.back (W W' : Wd) : Wd := { W with F := fun a => W'.F a ∧ (W.own a → W.F a) }
theorem RO.back {W W' : Wd} {S : List Cell} {H1 H2 : Hp} {v : V} {o : O} (B : Base false W S H1) (h : RO W' H1 H2 v o) (hf : flO o = true) : RO (W.back W') H1 H2 v o := by
  have nown : ∀ {a : Addr}, H1 a = none → ¬ (W.back W').own a := by
    intro a q3 z
    obtain ⟨u, e, _⟩ := B.own_there (show W.own a from z)
    rw [q3] at e
    cases e
  have go : ∀ {a : Addr}, OwnAt W' H2 a o → ¬ W'.F a → H1 a = none → OwnAt (W.back W') H2 a o ∧ ¬ (W.back W').F a ∧ ¬ (W.back W').own a ∧ H1 a = none := fun {a} q1 q2 q3 => ⟨q1.flat hf, fun z => q2 z.1, nown q3, q3⟩
  cases o with
  | un => exact h
  | d x => exact Rep.flat h hf
  | lst _ => obtain ⟨a, h1, h2, h3, h4, h5⟩ := h; exact ⟨a, h1, go h2 h3 h5⟩
  | dK _ => obtain ⟨a, h1, h2, h3, h4, h5⟩ := h; exact ⟨a, h1, go h2 h3 h5⟩
  | dT _ => obtain ⟨a, h1, h2, h3, h4, h5⟩ := h; exact ⟨a, h1, go h2 h3 h5⟩
  | ins _ _ _ => obtain ⟨a, h1, h2, h3, h4, h5⟩ := h; exact ⟨a, h1, go h2 h3 h5⟩
end Q
/-! sorted(d.items()), the keys tuples of texts, the values whole numbers, any number of items -/
/-! sorted(d.items()) of any number of items, over plain data -/
/-! sorted(d), the keys tuples of texts -/
/-! dict(pairs), the keys unlike tuples; sorted(d) over plain data -/
/-! o.m(k=v); a list times a number; repr of a dict with tuple keys -/
/-! keywords of a plain def -/
/-! x = {k: v for ..} on one line -/
/-! x = {k: v for ..} on one line, over plain data -/
/-! a, b, c = x, y, z where a name is used in a comprehension; a comprehension within a comprehension -/
/-! a comprehension over the list that a slot bears: the slot goes on bearing it -/
namespace Q
open PySem PySem.Spec PyProof.Rows L2
theorem walkGE {l : PySem.W.OpenLaw} {q : Program} {loose : List Str} {XP : (Str → Option Value) → Heap → Prop} {YP : World → Heap → Prop} {d : DefRec} (k : Nat) (hk : Room k callerA) (hn : l.most = some 63) (hdf : d.params.defaults = []) (hq : importsNone q = true)
    (F : ∀ (w : World) (mg : Str → Option Value) (fa : Addr) (h : Heap), YP w h → h.Ns mainGlobals mg → mg d.name = some (.ref fa) →
      ∃ (K : Frg) (fd : FuncData), K.In h ∧ (∀ (s : Shared) (u : Value), BindsTo s fd ⟨[u], []⟩ [("_law_script", u)]) ∧ ∀ base : Heap, K.In base → base.Ns mainGlobals mg → (∃ o, base.get? sysModules = some o) → FnOkG l.prog w K mg base (L2.CX l.prog w) k fa fd ["_law_script"] (spLaw K)) :
    PySem.W.WalkO q loose XP YP l.row.toRowW d [] (fun f vs => PySem.call f vs) := by
  refine Att.attach_call hn hdf fun w s₀ s₁ mg mb fa o pm cd doc a vs ns G Y ho hd hcd hmg hobj hints hlen hg => ?_
  obtain ⟨K, fd, hK, hb, hF⟩ := F w mg fa _ Y G.T.g hmg
  refine lawG_call hK G.T.g G.T.b G.T.builtins G.T.nolimit hg hobj hints (Nat.le_trans hlen (by decide)) hk (let ⟨mm, h, _⟩ := (G.T.seer hq).mods; ⟨mm, h⟩) hF hb (fun H hS => ⟨a, ns, rfl, hS, hlen, fun _ => rfl⟩) fun H e s' z => ?_
  obtain ⟨_, _, _, _, _, _, _, _, _, _, _, _, f⟩ := z
  exact f
end Q
/-! static methods; keyword-only arguments that are not given -/
/-! f(..)(..): an instance that is called where it is made -/
/-! repr of a truth -/
/-! a comprehension in a comprehension, with names of the outer one -/
namespace Q
open PySem L2 PySem.Spec PyProof.Rows
theorem pe_neg {X : Cx} {n : Int} {k : Nat} {p1 p2 : Pos} : PE X (.UnaryOp .USub (.Constant (.int n) k p1) p2) (tC (.int (-n))) := peOf (pe_un un_neg pe_int) fun σ H Q h => ⟨n, rfl, h⟩
end Q
/-! own errors whose constructor says super().__init__(..), over any built-in error -/
namespace Q
open PySem L2 PySem.Spec PyProof.Rows NdefX Builtin.ObjectAttr
/-- a built-in error: what the kit knows of it -/
structure BErr (B newId initId : String) (tl : List Value) : Prop where
  F : ExcBaseFacts B newId initId tl
  st : StoreFacts B tl "object.__setattr__" "object"
  kf : PySem.W.KxsFacts B initId
theorem bValue : BErr "ValueError" "ValueError.__new__" "ValueError.__init__" [.type "ValueError", .type "Exception", .type "BaseException", .type "object"] := ⟨F.excBase_ValueError, F.store_ValueError, PySem.W.kxs_ValueError⟩
theorem bLookup : BErr "LookupError" "LookupError.__new__" "LookupError.__init__" [.type "LookupError", .type "Exception", .type "BaseException", .type "object"] := ⟨F.excBase_LookupError, F.store_LookupError, PySem.W.kxs_LookupError⟩
theorem bOverflow : BErr "OverflowError" "OverflowError.__new__" "OverflowError.__init__" [.type "OverflowError", .type "ArithmeticError", .type "Exception", .type "BaseException", .type "object"] := ⟨F.excBase_OverflowError, F.store_OverflowError, PySem.W.kxs_OverflowError⟩
theorem bRuntime : BErr "RuntimeError" "RuntimeError.__new__" "RuntimeError.__init__" [.type "RuntimeError", .type "Exception", .type "BaseException", .type "object"] := ⟨F.excBase_RuntimeError, F.store_RuntimeError, PySem.W.kxs_RuntimeError⟩
/-- what the written part says of an own error over B -/
structure ExB (K : Frg) (C : Addr) (B newId initId : String) (tl : List Value) : Prop where
  b : BErr B newId initId tl
  ini : PySem.W.excInitIn K C tl newId = true
  ovr : PySem.W.excOver K C tl = true
  dct : PySem.W.hasDictIn K C = true
  sa : PySem.W.findIn K (.ref C) "__setattr__" = some (some (.builtin "object.__setattr__"))
  be : PySem.W.subIn K (.ref C) (.type "BaseException") = some true
  isB : PySem.W.subIn K (.ref C) (.type B) = some true
  ty : PySem.W.typeIn K (.ref C) = some (.type "type")
  kp : PySem.W.keepIn K (.ref C) = true
abbrev excA (C t : Addr) (d : Option Addr) : Obj := { cls := .ref C, dict := d, data := .fields #[.ref t, .none, .none, .none, .bool false, .none] }
section
variable {X : Cx} {pins : List (Addr × Obj)} {σ : L2.St} {H : Hp} {s : Shared} {a C dx : Addr} {f : Str} {y : V} {u : Value} {fs : List (Str × V)} {Q : Unit → Shared → Prop} {E : Value → Shared → Prop} {A : Around} {B newId initId : String} {tl : List Value}
/-- self.f = y where no field is yet -/
theorem exb_set0 (T : ExB X.K C B newId initId tl) (I : L2.Inv X pins σ H s) (e : H a = some (exo a C none)) (hf : PySem.W.takerIn X.K C f = some none) (ry : RelV y u)
    (h : ∀ dx s', H dx = none → dx ≠ a → L2.Inv X pins σ (upd (upd H dx (exd dx [(f, y)])) a (exo a C (some dx))) s' → Q () s') : wpAny (model X.prog X.w) A (setAttr (.ref a) f u) Q E s := by
  obtain ⟨t1, ho⟩ := exo_at I.hok e
  obtain ⟨cd, hc, hd⟩ := PySem.W.any_some T.dct
  obtain ⟨h0, g0, d0, t0, o0⟩ := s
  refine PySem.W.set_plain I.kIn (ox := excA C t1 none) (od := none) ⟨ho, rfl, rfl, trivial⟩ T.sa ?_
  refine PySem.W.osa_openX (od := none) T.b.st I.kIn ⟨ho, rfl, rfl, trivial⟩ T.ovr hf fun b => ?_
  refine wpAny_bind (wpAny_pure (wpAny_bind (PySem.W.instanceDict_exc ho (PySem.W.looks_clsIn I.kIn hc) hd ?_)))
  have la := Heap.lt_size ho
  have ns : a ≠ h0.objs.size := Nat.ne_of_lt la
  have ho1 : (h0.push (PySem.W.dictOf [] 0)).get? a = some (excA C t1 none) := Heap.get?_push_of_some _ ho
  show wpAny _ _ (storeInDict h0.objs.size (.str f t0) f u) _ _ _
  refine PySem.HandSPX.store_in_new ⟨_, #[], _, (Heap.get?_update_ne _ _ _ _ ns.symm).trans (Heap.get?_push_at rfl rfl), rfl, fun e he => absurd he (by simp), fun _ => rfl⟩ fun h' tk' hn hs => ?_
  have hnd : H h0.objs.size = none := I.hok.fresh (Nat.le_refl _)
  have kk : ∀ b o, b ≠ a → h0.get? b = some o → h'.get? b = some o := fun b o hb q => (hs.2 b (Nat.ne_of_lt (Heap.lt_size q))).trans ((Heap.get?_update_ne _ _ _ _ hb).trans (Heap.get?_push_of_some _ q))
  have hx : h'.get? a = some (excA C t1 (some h0.objs.size)) := (hs.2 a ns).trans (Heap.get?_update_self _ ho1 rfl)
  have nA : ∀ {b : Addr}, H b = none → b ≠ a := fun {b} n z => by rw [z, e] at n; cases n
  have nD : ∀ {b : Addr} {o : Obj}, h0.get? b = some o → b ≠ h0.objs.size := fun {b o} q => Nat.ne_of_lt (Heap.lt_size q)
  have un : Un X.fs [] H (upd (upd H h0.objs.size (exd h0.objs.size [(f, y)])) a (exo a C (some h0.objs.size))) h0 h' := {
    keep := fun b o q n _ _ => kk b o (nA n) q
    slot := fun b o q n _ _ => ⟨o.slots, kk b o (nA n) q⟩
    free := fun b o q n _ => (upd_ne (nA n)).trans ((upd_ne (nD q)).trans n)
    there := fun b o q _ => by
      by_cases hb : b = a
      · exact ⟨_, by rw [hb]; exact hx⟩
      · exact ⟨o, kk b o hb q⟩
    tups := fun b xs q => (upd_ne (at_ne e q exo_tup)).trans ((upd_ne (ne_of_none q hnd)).trans q)
    frzs := fun b o v q => (upd_ne (at_ne e q exo_frz)).trans ((upd_ne (ne_of_none q hnd)).trans q)
    tbls := fun b ps q => ⟨#[], by rw [upd_ne (at_ne e q exo_tbl), upd_ne (ne_of_none q hnd), q]; simp⟩ }
  show Q () ⟨h', g0, d0, tk', o0⟩
  refine h _ _ hnd ns.symm (I.un (t' := tk') un fun b o q => ?_)
  by_cases hb : b = a
  · rw [hb, upd_same] at q
    cases q
    rw [hb]
    exact exo_ok hx
  rw [upd_ne hb] at q
  by_cases hd : b = h0.objs.size
  · rw [hd, upd_same] at q
    cases q
    rw [hd]
    exact exd_ok hn (relO_put (fs := []) ry fun g => True.intro)
  rw [upd_ne hd] at q
  refine (I.hok b o q).stay (fun c v hc z => kk c v (hc.elim (fun hc => by rw [hc]; exact hb) fun hc => at_ne e hc exo_own) z) (fun c hc => ?_) fun c xs hc => ?_
  · exact (upd_ne (at_ne e hc exo_own)).trans ((upd_ne (ne_of_none hc hnd)).trans hc)
  · exact (upd_ne (at_ne e hc exo_tup)).trans ((upd_ne (ne_of_none hc hnd)).trans hc)
/-- .. where there are some -/
theorem exb_setN (T : ExB X.K C B newId initId tl) (I : L2.Inv X pins σ H s) (e : H a = some (exo a C (some dx))) (ed : H dx = some (exd dx fs)) (hl : fs.length ≤ 900) (hf : PySem.W.takerIn X.K C f = some none) (ry : RelV y u)
    (h : ∀ s', L2.Inv X pins σ (upd H dx (exd dx ((f, y) :: fs))) s' → Q () s') : wpAny (model X.prog X.w) A (setAttr (.ref a) f u) Q E s := by
  obtain ⟨t1, ho⟩ := exo_at I.hok e
  obtain ⟨mA, hns, rel⟩ := exd_at I.hok ed
  obtain ⟨cd, hc, hd⟩ := PySem.W.any_some T.dct
  have hw := within_of rel
  obtain ⟨h0, g0, d0, t0, o0⟩ := s
  obtain ⟨oD, _, _, hoD, _, _⟩ := hns.count hw
  refine PySem.W.set_plain I.kIn (ox := excA C t1 (some dx)) (od := some oD) ⟨ho, rfl, rfl, hoD⟩ T.sa ?_
  refine PySem.W.osa_openX (od := some oD) T.b.st I.kIn ⟨ho, rfl, rfl, hoD⟩ T.ovr hf fun b => ?_
  refine wpAny_bind (wpAny_pure (wpAny_bind (wpAny_bind (wpAny_loadPart ho (wpAny_bind ((PySem.W.looks_clsIn (M := model X.prog X.w) I.kIn hc).at ?_))))))
  rw [hd]
  refine wpAny_pure (a := some dx) ?_
  refine PySem.OEX.store_in_old hns hw (by rw [List.length_map]; omega) fun h' tk' hn hs => ?_
  obtain ⟨oN, _, _, hoN, _⟩ := id hn
  show Q () ⟨h', g0, d0, tk', o0⟩
  exact h _ (I.write (t' := tk') (x := dx) (e := dx) (o := exd dx ((f, y) :: fs)) (by rw [ed]; exact True.intro) (.inl rfl) (fun b o hb q => (hs.2 b hb).trans q) ⟨oN, hoN⟩ (exd_ok hn (relO_put ry rel)))
/-- the built-in's __init__ bound to the error, called -/
theorem exb_init {q : Addr} {us : List Value} {Q : Value → Shared → Prop} (T : ExB X.K C B newId initId tl) (I : L2.Inv X pins σ H s) (e : H a = some (exo a C none)) (hq : s.heap.get? q = some (PySem.W.kxs_mw initId a)) (hl : us.length ≤ sizeLine) (h : ∀ s', L2.Inv X pins σ H s' → Q .none s') :
    wpAny (model X.prog X.w) A (call (.ref q) us) Q E s := by
  obtain ⟨t1, ho⟩ := exo_at I.hok e
  obtain ⟨nm, N', qn, bs, bm, hdct, sn, sub, ab, col, dd, k0, k1, k2, k3, k5, hC, hT⟩ := PySem.W.excInit_of I.kIn T.ini
  have eu : upd H a (exo a C none) = H := funext fun b => if hb : b = a then by rw [hb, upd_same, e] else upd_ne hb
  obtain ⟨h0, g0, d0, t0, o0⟩ := s
  refine wpAny_call (codeAny_of_tree (show wpAny _ A.in1 (callAny (.ref q) ⟨us, []⟩) _ _ _ from ?_))
  unfold callAny
  refine wpAny_bind (wpAny_load hq ?_)
  simp only [show (Value.type "method-wrapper" == Value.type "method" || Value.type "method-wrapper" == Value.type "builtin_function_or_method" || Value.type "method-wrapper" == Value.type "method-wrapper") = true from by decide, if_true]
  refine PySem.W.KFB.if_so (by decide) (wpAny_bind (PySem.W.check_bound_init T.b.F.toExcCallFacts hC ho rfl (wpAny_bind (wpAny_pure (wpAny_pure ⟨plainId_quiet T.b.F.init.plain _, codeAny_builtin T.b.F.initEntry ?_⟩)))))
  rw [Around.under_plainId T.b.F.init.plain _]
  refine PySem.W.exc_init_tree (cls := .ref C) (t0 := t1) (dv := none) (c2 := .none) (c3 := .none) (b4 := .bool false) ho hl fun h' k hx _ => ?_
  have J := I.write (t' := t0) (x := a) (e := a) (o := exo a C none) (by rw [e]; exact True.intro) (.inl rfl) k ⟨_, hx⟩ (exo_ok hx)
  rw [eu] at J
  exact h _ J
end
end Q
/-! super().__init__(..) at an own error; its constructor; an own error made -/
namespace Q
open PySem L2 PySem.Spec PyProof.Rows NdefX
section
variable {X : Cx} {B newId initId : String} {tl : List Value}
/-- what super() needs in the constructor of the error C: the def at f, __class__ in slot j -/
structure SupE (X : Cx) (C : Addr) (initId : String) (sn : Str) (j : Nat) : Prop where
  su : X.env.kindOf "super" = some .globalImplicit
  cl : X.env.kindOf "__class__" = some .free
  fn : ∃ (f : Addr) (o : Obj) (fd : FuncData) (ar : Arg), X.env.func = some f ∧ X.K.lookup f = some o ∧ o.data = .func fd ∧ (fd.params.posonlyargs ++ fd.params.args).head? = some ar ∧ ar.arg = sn
  cd : ∃ (cda : Addr) (o : Obj) (vs : Array Value) (file : Str) (tf : Tok), X.env.code = .ref cda ∧ X.K.lookup cda = some o ∧ o.data = .fields vs ∧ vs[2]? = some (.str file tf) ∧ ((X.prog.main.file : Str) == file) = true
  top : (X.prog.main.scope.names.lookup ("super" : Str)).isSome = false
  mg : X.mg "super" = none
  n0 : X.N[0]? = some sn
  k0 : X.env.kindOf sn = some .local
  nj : X.N[j]? = some "__class__"
  sub : PySem.W.mroIn X.K C (.ref C) = some true
  op : PySem.W.nsIn X.K cStatics "thirdparty.any" = some none
  me : PySem.W.ks_superIn X.K C C "__init__" = some (some (.builtin initId))
theorem callW_mw {M : Model} {A : Around} {E : Value → Shared → Prop} {s : Shared} {u x : Addr} {i : String} {pos : Pos} {env : Env} {e : Expr} {es : List Expr} {Q : Value → Shared → Prop} (he : starEach (e :: es) env = (false, eval e env) :: starEach es env) (hp : (backTo pos (starEach es env)).any (·.1) = false)
    (h : wpAny M A (spliced (backTo pos (starEach (e :: es) env))) (fun vs s1 => PySem.W.KxsAt i u x s1.heap ∧ wpAny M A (call (.ref u) vs) Q E s1) E s) : wpAny M A (callWith pos (.ref u) [] (backTo pos (starEach (e :: es) env)) []) Q E s := by
  rw [he] at h ⊢
  exact PySem.W.kxs_callWith (i := i) (x := x) (show (false || (backTo pos (starEach es env)).any (·.1)) = false by rw [hp]; rfl) (PySem.Calls.evalArgs_plain h)
def tSupE (C : Addr) (j : Nat) (t : TA) (t2 : TS) : TS := fun Ds σ H => ∃ x, σ[0]? = some (some (.ref x)) ∧ σ[j]? = some (some (.ref C)) ∧ H x = some (exo x C none) ∧ t σ H fun vs H1 => vs.length ≤ 1000 ∧ H1 x = some (exo x C none) ∧ t2 Ds σ H1
theorem psat_supE {C : Addr} {sn : Str} {j : Nat} {e : Expr} {es : List Expr} {p0 p1 ap pos pos' : Pos} {rest : List Stmt} {body : List Stmt} {t : TA} {t2 : TS} {pl : Sem Bool} (T : ExB X.K C B newId initId tl) (A : SupE X C initId sn j) (ha : PA X (e :: es) t) (h2 : PSat X (.func body X.env) rest t2)
    (hi : interactive X.env = false) (hsw : swapsWith (.Call (.Attribute (.Call (.Name "super" p0) [] [] p1) "__init__" ap) (e :: es) [] pos) none pos'.line X.env = pure false)
    (hst : starEach (e :: es) X.env = (false, eval e X.env) :: starEach es X.env := by rfl) (hpl : (backTo pos (starEach es X.env)).any (·.1) = false := by rfl)
    (ht : eval (.Call (.Attribute (.Call (.Name "super" p0) [] [] p1) "__init__" ap) (e :: es) [] pos) X.env = (do let ov ← attributeBase (.Call (.Name "super" p0) [] [] p1) "__init__" X.env (eval (.Call (.Name "super" p0) [] [] p1) X.env); standAt ap.atName; let (f, first) ← holding [ov] (getMethod ov "__init__" pl); callWith pos f first (backTo pos (starEach (e :: es) X.env)) []) := by rfl) :
    PSat X (.func body X.env) (.Expr (.Call (.Attribute (.Call (.Name "super" p0) [] [] p1) "__init__" ap) (e :: es) [] pos) pos' :: rest) (tSupE C j t t2) := by
  refine ⟨fun pins s σ H Ds I q => ?_⟩
  obtain ⟨x, s0, sj, ex, q⟩ := q
  obtain ⟨f, of, fd, ar, e1, e2, e3, e4, e5⟩ := A.fn
  obtain ⟨cda, oc, vs, file, tf, c1, c2, c3, c4, c5⟩ := A.cd
  have kin := I.kIn
  refine PySem.ks_wpAt_execs_cons (PySem.ks_wpAt_Expr_any (PySem.ks_wpAt_MethodCall (pl := pl) ?_ ht) hi hsw)
  refine PySem.ks_wpAt_super_base (env := X.env) A.su A.cl (by decide +kernel) e1 (kin _ _ e2) e3 e4 c1 (kin _ _ c2) c3 c4 c5 A.top ?_
  obtain ⟨mb, b1, b2⟩ := I.mod.blt
  refine PySem.W.ks_loadName_global I.ok.kind A.su (Calls.loadGlobal_builtin (by rw [I.ok.glob]; exact I.mod.glob.keeps I.bk) A.mg (by rw [I.ok.blt]; exact b1.keeps I.bk) ((b2 _ (by decide +kernel)).trans (show bootBuiltins "super" = some (.type "super") by decide +kernel)) ⟨rfl, ?_⟩)
  obtain ⟨m, hn, hl⟩ := I.loc
  obtain ⟨u, ru, lu⟩ := hl j "__class__" (.ref C) A.nj sj (.inr (.inr A.cl))
  obtain rfl : u = .ref C := ru
  obtain ⟨u0, ru0, lu0⟩ := hl 0 sn (.ref x) A.n0 s0 (.inl A.k0)
  obtain rfl : u0 = .ref x := ru0
  rcases lu with ⟨kl, _⟩ | ⟨_, c0, hc0, cell0⟩
  · rw [A.cl] at kl
    cases kl
  rcases lu0 with ⟨k0, m0⟩ | ⟨kc, _⟩
  · refine wpAny_loadName_free I.ok.kind A.cl hc0 cell0 ?_
    rw [e5]
    refine wpAny_loadName_local I.ok.kind A.k0 hn m0 ?_
    obtain ⟨cdC, hC, hdC⟩ := PySem.W.any_some T.dct
    obtain ⟨oD, cdD, d1, d2⟩ := clsIn_at kin (by rw [hC]; rfl)
    obtain ⟨hh, g, d, tk, os⟩ := s
    refine PySem.ks_wpAny_isType_cls d1 d2 ⟨rfl, ?_⟩
    obtain ⟨t1, ho⟩ := exo_at I.hok ex
    have J : PySem.W.InstAt hh x (excA C t1 none) C none := ⟨ho, rfl, rfl, trivial⟩
    refine PySem.ks_wpAny_call_super d1 d2 J.at_ J.cls (fun c z => by cases z) (PySem.W.looks_mroIn kin A.sub) fun h' so keep => ?_
    · have I1 : L2.Inv X pins σ H ⟨h', g, d, tk, os⟩ := I.kept keep
      have kin1 := I1.kIn
      have me := A.me
      unfold PySem.W.ks_superIn at me
      rw [hC, Option.bind_some] at me
      have J1 : PySem.W.InstAt h' x (excA C t1 none) C none := ⟨keep _ _ ho, rfl, rfl, trivial⟩
      refine PySem.W.kxs_getMethod T.b.kf so (PySem.W.looks_opaque kin1 A.op) (l₀ := cdC.mro) (fun A' Q' E' s' k' z => wpAny_bind ((PySem.W.looks_clsIn kin1 hC) A' _ E' s' k' (wpAny_pure z))) rfl kin1 me (J1.type.andThen (PySem.W.looks_subIn kin1 T.isB)) (PySem.W.ks_ne kin J hC) (by decide +kernel) ?_
      have I2 : L2.Inv X ((h'.objs.size, PySem.W.kxs_mw initId x) :: pins) σ H ⟨h'.push (PySem.W.kxs_mw initId x), g, d, tk + 1, os⟩ := ClX.pin_new I1 (fun b o z => Heap.get?_push_of_some _ z) (Nat.le_refl _) (Heap.get?_push_at rfl rfl) (fun v z => by cases z)
      refine callW_mw (i := initId) (x := x) hst hpl ?_
      refine thn (ha.run pos _ _ σ H _ I2 q) fun us s3 ⟨vs', H2, I3, rv, lv, ex2, q2⟩ => ⟨ClX.pin_at I3, ?_⟩
      refine thn (Q := fun v s' => v = Value.none ∧ L2.Inv X pins σ H2 s') (exb_init T I3 ex2 (ClX.pin_at I3) (by rw [← rv.length, sizeLine_eq]; omega) fun s' I4 => ⟨rfl, ClX.unpin I4⟩) fun u s4 z => ?_
      exact h2.run pins s4 σ H2 Ds z.2 q2
  · rw [A.k0] at kc
    rcases kc with kc | kc <;> cases kc
/-- self.f = e, in the constructor of an error -/
def tSetE (K : Frg) (f : Str) (to te : TE) : TS := fun D σ H => te σ H fun y H1 => to σ H1 fun x H2 => ∃ (a C : Addr) (B newId initId : String) (tl : List Value), x = .ref a ∧ ExB K C B newId initId tl ∧ PySem.W.takerIn K C f = some none ∧
  ((H2 a = some (exo a C none) ∧ ∀ dx, H2 dx = none → dx ≠ a → D.nx σ (upd (upd H2 dx (exd dx [(f, y)])) a (exo a C (some dx)))) ∨
    ∃ (dx : Addr) (fs : List (Str × V)), H2 a = some (exo a C (some dx)) ∧ H2 dx = some (exd dx fs) ∧ fs.length ≤ 900 ∧ D.nx σ (upd H2 dx (exd dx ((f, y) :: fs))))
theorem ps_setE {o e : Expr} {to te : TE} {f : Str} {p' pos : Pos} (ho : PE X o to) (he : PE X e te) (hs : swapsWith e (some (.Attribute o f p')) pos.line X.env = pure false := by rfl) : PS X (.Assign [.Attribute o f p'] e pos) (tSetE X.K f to te) := ⟨fun pins s σ H D I h => by
  refine plainObj_wpAny_Assign_Attribute (thn (he.run pins s σ H _ I h) fun v s1 ⟨y, H1, I1, r1, q1⟩ => thn (ho.run pins s1 σ H1 _ I1 q1) fun u s2 ⟨x, H2, I2, r2, a, C, B, n1, n2, tl, e1, T, ht, q⟩ => ?_) hs
  subst e1
  obtain rfl : u = Value.ref a := r2
  rcases q with ⟨ea, q⟩ | ⟨dx, fs, ea, ed, hl, q⟩
  · exact exb_set0 T I2 ea ht r1 fun dx s' n ne J => ⟨σ, _, J, q dx n ne⟩
  · exact exb_setN T I2 ea ed hl ht r1 fun s' J => ⟨σ, _, J, q⟩⟩
end
end Q
/-! the constructors of own errors; own errors made -/
namespace Q
open PySem L2 PySem.Spec PyProof.Rows NdefX
section
variable {P : Program} {w : World} {K : PySem.W.Frag} {mg : Str → Option Value} {base : Heap} {B newId initId : String} {tl : List Value}
/-- what super().__init__ of an error needs of the program and of the written part -/
structure SupX (P : Program) (K : PySem.W.Frag) (mg : Str → Option Value) (C c : Addr) (initId : String) : Prop where
  cd : ∃ (oc : Value) (od : Option Addr) (vs : Array Value) (sl : Array (Option Value)) (file : Str) (tf : Tok), K.lookup c = some ⟨oc, od, .fields vs, sl⟩ ∧ vs[2]? = some (.str file tf) ∧ ((P.main.file : Str) == file) = true
  top : (P.main.scope.names.lookup ("super" : Str)).isSome = false
  mg : mg "super" = none
  sub : PySem.W.mroIn K C (.ref C) = some true
  op : PySem.W.nsIn K cStatics "thirdparty.any" = some none
  me : PySem.W.ks_superIn K C C "__init__" = some (some (.builtin initId))
theorem supEAt {x qual sn : Str} {st : Stmt} {f C cc c : Addr} {fd : FuncData} {N : List Str} {A : Around} {outer : List Env} {s : Shared} {H : Hp} {E : XK} {j : Nat} (F : FunS K x qual st f fd cc c C) (S : SupX P K mg C c initId)
    (har : ∃ ar : Arg, ((defArgs st).posonlyargs ++ (defArgs st).args).head? = some ar ∧ ar.arg = sn) (hsu : (defScope st).names.lookup ("super" : Str) = some .globalImplicit) (hcl : (defScope st).names.lookup ("__class__" : Str) = some .free) (hn0 : N[0]? = some sn) (hk0 : (defScope st).names.lookup sn = some .local) (hnj : N[j]? = some "__class__") :
    SupE (ncx (L2.CX P w) P w K mg base N (nfOf st x qual cc c) f A outer s H E) C initId sn j := by
  obtain ⟨oc, kV, doc, pm, ct, cl, od, an, cld, osl, csl, rfl, at_, cell⟩ := F.ex
  obtain ⟨ar, a1, a2⟩ := har
  obtain ⟨coc, cod, vs, sl, file, tf, c1, c2, c3⟩ := S.cd
  exact ⟨hsu, hcl, ⟨f, _, _, ar, rfl, at_, rfl, a1, a2⟩, ⟨c, _, vs, file, tf, rfl, c1, rfl, c2, c3⟩, S.top, S.mg, hn0, hk0, hnj, S.sub, S.op, S.me⟩
/-- the constructor of an error with the fields fl -/
def spE (C : Addr) (fl : List Str) : Sp := fun vs H Q _ => ∃ a ws, vs = .ref a :: ws ∧ ws.length = fl.length ∧ H a = some (exo a C none) ∧ ∀ dx, H dx = none → dx ≠ a → Q .non (upd (upd H dx (exd dx (fl.zip ws).reverse)) a (exo a C (some dx)))
theorem fnE {x qual : Str} {st : Stmt} {f C cc c : Addr} {fd : FuncData} {N ps : List Str} {k : Nat} {sp : Sp} (F : FunS K x qual st f fd cc c C) (S : NScope N ps ["__class__"] (defScope st)) (len : ∀ vs H Q E, sp vs H Q E → vs.length = ps.length)
    (hb : ∀ (A : Around) (outer : List Env) (s : Shared) (H : Hp) (vs : List V) (Q : VK) (E : XK), Room k (A.deeper (envF (nfOf st x qual cc c) f s.heap.objs.size)) → sp vs H Q E →
      ∃ t, PSat (ncx (L2.CX P w) P w K mg base N (nfOf st x qual cc c) f A outer s H E) (.func (defBody st) (envF (nfOf st x qual cc c) f s.heap.objs.size)) (defBody st) t ∧ t { nx := fun _ H' => Q .non H', rt := Q } (startF N vs [some (.ref C)]) H) :
    FnOk P w K mg base (L2.CX P w) (k + 1) f fd ps sp := by
  obtain ⟨oc, kV, doc, pm, ct, cl, od, an, cld, osl, csl, rfl, at_, cell⟩ := F.ex
  exact fn_sup (F := nfOf st x qual cc c) rfl at_ F.code cell S len hb
theorem spE1_go {C : Addr} {f : Str} {vs : List V} {H : Hp} {Q : VK} {E : XK} {sn x : Str} (h : spE C [f] vs H Q E) (T : ExB K C B newId initId tl) (ht : PySem.W.takerIn K C f = some none) :
    tSupE C 2 (tCons (tVar 1) tNil) (fun D σ H => tSetE K f (tVar 0) (tVar 1) { D with nx := fun σ' H' => tNext D σ' H' } σ H) { nx := fun _ H' => Q .non H', rt := Q } (startF [sn, x, "__class__"] vs [some (.ref C)]) H := by
  obtain ⟨a, ws, rfl, hl, ha, q⟩ := h
  match ws, hl, q with
  | [y], _, q => exact ⟨a, rfl, rfl, ha, y, rfl, (show 1 ≤ 1000 by decide), ha, y, rfl, .ref a, rfl, a, C, B, newId, initId, tl, rfl, T, ht, .inl ⟨ha, q⟩⟩
theorem spE2_go {C : Addr} {f g : Str} {vs : List V} {H : Hp} {Q : VK} {E : XK} {sn x1 x2 : Str} (h : spE C [f, g] vs H Q E) (T : ExB K C B newId initId tl) (ht : PySem.W.takerIn K C f = some none) (ht2 : PySem.W.takerIn K C g = some none) :
    tSupE C 3 (tCons (tVar 1) (tCons (tVar 2) tNil)) (fun D σ H => tSetE K f (tVar 0) (tVar 1) { D with nx := fun σ' H' => tSetE K g (tVar 0) (tVar 2) { D with nx := fun σ' H' => tNext D σ' H' } σ' H' } σ H) { nx := fun _ H' => Q .non H', rt := Q } (startF [sn, x1, x2, "__class__"] vs [some (.ref C)]) H := by
  obtain ⟨a, ws, rfl, hl, ha, q⟩ := h
  match ws, hl, q with
  | [y, z], _, q =>
    refine ⟨a, rfl, rfl, ha, y, rfl, z, rfl, (show 2 ≤ 1000 by decide), ha, y, rfl, .ref a, rfl, a, C, B, newId, initId, tl, rfl, T, ht, .inl ⟨ha, fun dx n ne => ?_⟩⟩
    refine ⟨z, rfl, .ref a, rfl, a, C, B, newId, initId, tl, rfl, T, ht2, .inr ⟨dx, _, upd_same, (upd_ne ne).trans upd_same, (show 1 ≤ 900 by decide), ?_⟩⟩
    have e : upd (upd (upd H dx (exd dx [(f, y)])) a (exo a C (some dx))) dx (exd dx [(g, z), (f, y)]) = upd (upd H dx (exd dx [(g, z), (f, y)])) a (exo a C (some dx)) := by
      funext b
      by_cases h1 : b = dx
      · rw [h1, upd_same, upd_ne ne, upd_same]
      · rw [upd_ne h1]
        by_cases h2 : b = a
        · rw [h2, upd_same, upd_same]
        · rw [upd_ne h2, upd_ne h2, upd_ne h1, upd_ne h1]
    show Q .non _
    rw [e]
    exact q dx n ne
end
end Q
/-! raise of an own error, over plain states -/
namespace Q
open PySem L2 PySem.Spec PyProof.Rows NdefX
theorem RepF.snoc {φ F H} {k : Str} {v : V} {d : D} (h : Rep φ F H v d) : ∀ {xs : List (Str × V)} {ds : List (Str × D)}, RepF φ F H xs ds → RepF φ F H (xs ++ [(k, v)]) (ds ++ [(k, d)])
  | _, _, .nil => .cons h .nil
  | _, _, .cons a t => .cons a (RepF.snoc h t)
theorem repF_zip {φ F H} : ∀ {fl : List Str} {vs : List V} {ds : List D}, RepL φ F H vs ds → RepF φ F H (fl.zip vs).reverse (fl.zip ds).reverse
  | [], _, _, _ => .nil
  | _ :: _, _, _, .nil => .nil
  | k :: fl, _, _, .cons h t => by
    rw [List.zip_cons_cons, List.zip_cons_cons, List.reverse_cons, List.reverse_cons]
    exact (repF_zip t).snoc h
end Q
/-! try .. except C as e, at the top of a def -/
namespace Q
open PySem L2 PySem.Spec PyProof.Rows NdefX
/-! ends that ask nothing of what was before -/
def enOk0 (c : C0) (D : Ends) (K : En) : Prop :=
  (∀ st W σ H, K.nx st → Pre c W st σ H → D.nx σ (lockH W.L H)) ∧ (∀ o st W σ H v, K.rt o st → Pre c W st σ H → OV c W st σ H v o → D.rt v (lockH W.L H)) ∧
  (∀ st W σ H, K.bk st → Pre c W st σ H → D.bk σ (lockH W.L H)) ∧ (∀ st W σ H, K.ct st → Pre c W st σ H → D.ct σ (lockH W.L H))
theorem enOk0.en {c : C0} {D : Ends} {K : En} (h : enOk0 c D K) (W : Wd) (H : Hp) : enOk c W H D K := ⟨fun st W σ H q P _ => h.1 st W σ H q P, fun o st W σ H v q P _ => h.2.1 o st W σ H v q P, fun st W σ H q P _ => h.2.2.1 st W σ H q P, fun st W σ H q P _ => h.2.2.2 st W σ H q P⟩
def tXS0 (c : C0) (f : Sx) : TS := fun D σ H => ∃ W st H1 K, H = lockH W.L H1 ∧ Pre c W st σ H1 ∧ enOk0 c D K ∧ f c.E K st
def PXB0 (X : Cx) (s : List Stmt) (f : Sx) : Prop := ∀ c, Lk X c → PSs X s (tXS0 c f)
section
variable {X : Cx} {s : Stmt} {rest : List Stmt} {f g : Sx}
theorem pxb0_of (h : PXB X rest f) : PXB0 X rest f := fun c l => pssOf (h c l) fun D σ H ⟨W, st, H1, K, e, P, ek, q⟩ => ⟨W, st, H1, K, e, P, ek.en W H1, q⟩
end
/-! the statement -/
theorem Pre.gone {c : C0} {W : Wd} {st : Ps} {σ : L2.St} {H : Hp} (P : Pre c W st σ H) (i : Nat) : Pre c W { st with ρ := st.ρ.set i .un } (σ.set i none) H := by
  have own : ∀ {j : Nat} {a : Addr}, slotOwns (st.ρ.set i .un) (σ.set i none) j a → slotOwns st.ρ σ j a := fun {j a} z => (owns_set z).elim (fun y => by cases y.2.1) fun y => y.2
  refine ⟨P.hrw, P.step, P.new, P.base, by simp only [List.length_set]; exact P.slen, fun j o e => ?_, fun j a z => P.sown j a (own z), fun j k a z y => P.sapart j k a (own z) (own y), fun a h => ?_, P.hvw, P.own0⟩
  · by_cases q : j = i
    · subst q
      rw [List.getElem?_set, if_pos rfl] at e
      split at e
      · cases e; exact trivial
      · cases e
    · rw [List.getElem?_set_ne (Ne.symm q)] at e ⊢
      exact P.slot j o e
  · obtain ⟨h1, h2, h3, h4⟩ := P.rsv a h
    exact ⟨h1, h2, h3, fun j z => h4 j (own z)⟩
end Q
/-! e.f and isinstance(e, C) where e is a caught error -/
/-! x = y.pop(), y.extend(..); what is known of an own error -/
namespace Q
open PySem L2 PySem.Spec PyProof.Rows NdefX
section
variable {X : Cx}
/-- y.extend(e): y the slot i's own list -/
def sExt (i : Nat) (f : Ex) : Sx := fun E K st => (∃ ys, st.ρ[i]? = some (.lst ys)) ∧ f E st fun r st1 => opt (frz st1 r) fun q => match q.1, q.2.ρ[i]? with
  | .lst ys, some (.lst xs) => xs.length + ys.length ≤ sizeLine ∧ K.nx { q.2 with ρ := q.2.ρ.set i (.lst (xs ++ ys)) }
  | _, _ => False
theorem pxs_ext {e : Expr} {i : Nat} {f : Ex} {s : Stmt} (h : ∀ {t : TA}, PA X [e] t → PS X s (tDrop (tBM X.K "list" rExtend (tVar i) t))) (he : PXA X [e] (xCons f xNil)) : PXS X s (sExt i f) := fun c l => psOf (h (he c l)) fun Ds σ H ⟨W, st, H1, K, hH, P, ek, ⟨ys, hy⟩, q⟩ => by
  subst hH
  obtain ⟨a, vs, e1, e2, e3⟩ := P.own_lst hy
  refine ⟨_, e1, .inl ⟨rfl, vs, SqL.of (P.nol e2 rfl)⟩, W, st, H1, fun rs st1 => ∃ r, rs = [r] ∧ opt (frz st1 r) fun q => match q.1, q.2.ρ[i]? with
    | .lst ys, some (.lst xs) => xs.length + ys.length ≤ sizeLine ∧ K.nx { q.2 with ρ := q.2.ρ.set i (.lst (xs ++ ys)) }
    | _, _ => False, rfl, P, ?_, ?_⟩
  · show f c.E st fun r st1 => ∃ r', [r] = [r'] ∧ _
    simp only [List.cons.injEq, and_true, exists_eq_left']
    exact q
  · rintro rs st1 us W1 H2 ⟨r, rfl, q1⟩ s1 P1 rvs
    obtain ⟨⟨y, st2⟩, e4, q1⟩ := opt_ex q1
    cases rvs with
    | cons rv t =>
      cases t
      obtain ⟨W2, s2, P2, r2, eL⟩ := frz_ok P1 e4 rv
      dsimp only at q1 P2 r2
      split at q1
      · rename_i _ _ zs xs hxs
        obtain ⟨a', vs', f1, f2, f3⟩ := P2.own_lst hxs
        rw [e1] at f1
        cases f1
        cases r2 with
        | lst h1 h2 h3 =>
          have so : slotOwns st2.ρ σ i a := ⟨_, hxs, rfl, e1⟩
          refine ⟨_, _, _, _, rfl, rfl, P1.nol f2 rfl, P1.nol h2 rfl, by rw [f3.length, h3.length]; exact q1.1, ?_⟩
          have nl : W1.L.lookup a = none := by rw [← eL]; exact P2.lown (P2.sown i a so).1 (P2.sown i a so).2.1
          rw [lock_upd nl, ← eL]
          refine ek.1 _ _ _ _ q1.2 (P2.mutate (o' := .lst (xs ++ zs)) hxs rfl e1 rfl fun fu => ⟨_, upd_same, (f3.append h3).fut fu⟩) ?_
          exact (P.aft (s1.trans s2)).trans ⟨fut_mut W2 (P2.sown i a so).1 f2 rfl, [], rfl⟩
      · exact q1.elim
end
/-- an own error: its class at C, its constructor at f, the constructor's code at c -/
structure ErrK (P : Program) (K : Frg) (mg : Str → Option Value) (x : Str) (C f : Addr) (fd : FuncData) (c : Addr) (B newId initId : String) (tl : List Value) (fl ps : List Str) : Prop where
  T : ExB K C B newId initId tl
  hi : PySem.W.findIn K (.ref C) "__init__" = some (some (.ref f))
  hf : PySem.W.isFn K (.ref f) = true
  hb : Binds K fd ps []
  hm : mg x = some (.ref C)
  S : SupX P K mg C c initId
  tk : ∀ f ∈ fl, PySem.W.takerIn K C f = some none
/-- an own error that is caught -/
structure CauK (K : Frg) (C : Addr) (fl : List Str) : Prop where
  xf : XfC K C
  xc : ExcC K C
  no : ∀ f ∈ fl, PySem.W.findIn K (.ref C) f = some none
end Q
/-! a list of anything == [] -/
namespace Q
open PySem L2 PySem.Spec PyProof.Rows NdefX
/-! a, b = x, y where a name is used in a comprehension -/
theorem FunS.binds {K : Frg} {x qual : Str} {st : Stmt} {f D cc c : Addr} {fd : FuncData} {ps : List Str} (F : FunS K x qual st f fd cc c D)
    (h : ∀ (kV doc pm ct : Value) (an : Option Addr) (us : List Value), us.length = ps.length → bindArgs (PySem.W.fnX x qual (defArgs st) (defBody st) (defScope st) [(("__class__" : Str), cc)] .none kV doc pm an (.ref c) ct) ⟨us, []⟩ = pure (ps.zip us)) : Binds K fd ps [] := by
  obtain ⟨oc, kV, doc, pm, ct, cl, od, an, cld, osl, csl, rfl, at_, cell⟩ := F.ex
  intro s us _ hl
  rw [List.append_nil] at hl ⊢
  exact .of_eq (h kV doc pm ct an us hl)
theorem all1 {α : Type} {p : α → Prop} {a : α} (h : p a) : ∀ x ∈ [a], p x := fun x hx => by rw [List.mem_singleton.mp hx]; exact h
theorem all2 {α : Type} {p : α → Prop} {a b : α} (h : p a) (h2 : p b) : ∀ x ∈ [a, b], p x := fun x hx => by
  rcases List.mem_cons.mp hx with e | e
  · rw [e]; exact h
  · rw [List.mem_singleton.mp e]; exact h2
end Q
/-! enumerate(a tuple) -/
/-! f(lambda: e): what the making of the lambda changes, told exactly -/
/-! f(lambda: e): the rule; a def that calls what it is handed and tells a field of a caught error -/
/-! def told(call): try: return call() / except C as e: return e.f -/
/-! f(lambda: e) over plain states -/
/-! told(lambda: e) over plain states -/
/-! defs that make lambdas: their code object is known -/
/-! the walk of a law that makes lambdas -/
namespace Q
open PySem PySem.Spec PyProof.Rows L2 LamX
section
variable {P : Program} {w : World} {K : PySem.W.Frag} {mg mb : Str → Option Value} {s : Shared} {a A ca : Addr} {us : List Value} {ns : List Int}
abbrev scrO (us : List Value) : Obj := { cls := .type "list", data := .seq us.toArray }
abbrev tabO0 : Obj := { cls := .none, data := .fields #[] }
structure ScrT (P : Program) (w : World) (K : PySem.W.Frag) (s : Shared) (a A : Addr) (us : List Value) (H : Hp) : Prop where
  only : ∀ b u, H b = some u → (b = a ∧ ∃ xs, u = .frz (scrO us) (.lst xs)) ∨ (b = A ∧ u = .tbl #[])
  own : ∀ b, H b ≠ none → K.lookup b = none
  ok : HOk P w H s.heap
theorem ScrT.other {H : Hp} (S : ScrT P w K s a A us H) (ha : s.heap.get? a = some (scrO us)) (hA : s.heap.get? A = some tabO0) {b : Addr} {o : Obj} (hb : s.heap.get? b = some o) (h1 : o ≠ scrO us) (h2 : o ≠ tabO0) : (hidT s.heap H).get? b = some o := by
  refine hidT_get hb ?_
  rcases z : H b with _ | u
  · rfl
  · rcases S.only b u z with ⟨rfl, _⟩ | ⟨rfl, _⟩
    · exact absurd (Option.some.inj (hb.symm.trans ha)) h1
    · exact absurd (Option.some.inj (hb.symm.trans hA)) h2
theorem ScrT.nsp {H : Hp} (S : ScrT P w K s a A us H) (ha : s.heap.get? a = some (scrO us)) (hA : s.heap.get? A = some tabO0) {b : Addr} {m : Str → Option Value} (h : s.heap.Ns b m) : (hidT s.heap H).Ns b m := by
  obtain ⟨o, es, ep, e, d, r⟩ := h
  refine ⟨o, es, ep, S.other ha hA e (fun z => ?_) (fun z => ?_), d, r⟩
  · rw [z] at d
    cases d
  · rw [z] at d
    cases d
theorem ScrT.kin {H : Hp} (S : ScrT P w K s a A us H) (KX : K.In s.heap) : K.In (hidT s.heap H) := fun b o e => by
  refine hidT_get (KX b o e) ?_
  rcases z : H b with _ | u
  · rfl
  · rw [S.own b (by rw [z]; exact fun q => by cases q)] at e
    cases e
end
end Q
/-! == of dicts whose values are data; != of what may be an instance or a text -/
/-! != of two results; a, b = a list -/
/-! two keywords in the other order -/
namespace Q
open PySem L2 PySem.Spec PyProof.Rows NdefX
theorem vals_rev {vs : List V} {us : List Value} (h : Vals vs us) : Vals vs.reverse us.reverse := by
  have app : ∀ {vs : List V} {us : List Value} {ws : List V} {zs : List Value}, Vals vs us → Vals ws zs → Vals (vs ++ ws) (us ++ zs) := fun {vs us ws zs} h g => by
    induction h with
    | nil => exact g
    | cons a t ih => exact .cons a ih
  induction h with
  | nil => exact .nil
  | cons a t ih =>
    rw [List.reverse_cons, List.reverse_cons]
    exact app ih (.cons a .nil)
end Q
/-! == of two lists of own instances, with any answer -/
/-! == of two lists of own instances, over plain states -/
namespace Q
open PySem L2 PySem.Spec PyProof.Rows NdefX
mutual
/-- data that a value determines -/
def pureD : D → Bool
  | .non | .bl _ | .int _ | .str _ | .byt _ | .ty _ => true
  | .lst xs => pureL xs
  | .tup xs => pureL xs
  | .dK kvs => pureK kvs
  | .dT kvs => pureT kvs
  | .ins _ fs => pureF fs
  | _ => false
def pureL : List D → Bool
  | [] => true
  | d :: ds => pureD d && pureL ds
def pureK : List (Key × D) → Bool
  | [] => true
  | (_, d) :: ds => pureD d && pureK ds
def pureT : List (List Key × D) → Bool
  | [] => true
  | (_, d) :: ds => pureD d && pureT ds
def pureF : List (Str × D) → Bool
  | [] => true
  | (_, d) :: ds => pureD d && pureF ds
end
section
variable {φ : List (Addr × Addr)} {F : Addr → Prop} {H : Hp}
mutual
theorem Rep.one : ∀ {d e : D} {v : V}, pureD d = true → pureD e = true → Rep φ F H v d → Rep φ F H v e → d = e
  | .non, e, _, p, q, h, g => by cases h; cases g; rfl
  | .bl b, e, _, p, q, h, g => by cases h; cases g; rfl
  | .int i, e, _, p, q, h, g => by cases h; cases g; rfl
  | .str i, e, _, p, q, h, g => by cases h; cases g; rfl
  | .byt i, e, _, p, q, h, g => by cases h; cases g; rfl
  | .ty i, e, _, p, q, h, g => by cases h; cases g; rfl
  | .lst ds, e, _, p, q, h, g => by
    cases h with
    | lst h1 h2 h3 =>
      cases g with
      | lst g1 g2 g3 =>
        rw [h2] at g2
        cases g2
        rw [RepL.one (by simpa only [pureD] using p) (by simpa only [pureD] using q) h3 g3]
      | tup g2 g3 => rw [h2] at g2; cases g2
      | dK g1 g2 g3 => rw [h2] at g2; cases g2
      | dT g1 g2 g3 => rw [h2] at g2; cases g2
      | ins g1 g2 g3 => rw [h2] at g2; cases g2
      | _ => simp [pureD] at q
  | .tup ds, e, _, p, q, h, g => by
    cases h with
    | tup h2 h3 =>
      cases g with
      | tup g2 g3 =>
        rw [h2] at g2
        cases g2
        rw [RepL.one (by simpa only [pureD] using p) (by simpa only [pureD] using q) h3 g3]
      | lst g1 g2 g3 => rw [h2] at g2; cases g2
      | dK g1 g2 g3 => rw [h2] at g2; cases g2
      | dT g1 g2 g3 => rw [h2] at g2; cases g2
      | ins g1 g2 g3 => rw [h2] at g2; cases g2
      | _ => simp [pureD] at q
  | .dK ds, e, _, p, q, h, g => by
    cases h with
    | dK h1 h2 h3 =>
      cases g with
      | dK g1 g2 g3 =>
        rw [h2] at g2
        cases g2
        rw [RepK.one (by simpa only [pureD] using p) (by simpa only [pureD] using q) h3 g3]
      | lst g1 g2 g3 => rw [h2] at g2; cases g2
      | tup g2 g3 => rw [h2] at g2; cases g2
      | dT g1 g2 g3 => rw [h2] at g2; cases g2
      | ins g1 g2 g3 => rw [h2] at g2; cases g2
      | _ => simp [pureD] at q
  | .dT ds, e, _, p, q, h, g => by
    cases h with
    | dT h1 h2 h3 =>
      cases g with
      | dT g1 g2 g3 =>
        rw [h2] at g2
        cases g2
        rw [RepT.one (by simpa only [pureD] using p) (by simpa only [pureD] using q) h3 g3]
      | lst g1 g2 g3 => rw [h2] at g2; cases g2
      | tup g2 g3 => rw [h2] at g2; cases g2
      | dK g1 g2 g3 => rw [h2] at g2; cases g2
      | ins g1 g2 g3 => rw [h2] at g2; cases g2
      | _ => simp [pureD] at q
  | .ins C ds, e, _, p, q, h, g => by
    cases h with
    | ins h1 h2 h3 =>
      cases g with
      | ins g1 g2 g3 =>
        rw [h2] at g2
        cases g2
        rw [RepF.one (by simpa only [pureD] using p) (by simpa only [pureD] using q) h3 g3]
      | lst g1 g2 g3 => rw [h2] at g2; cases g2
      | tup g2 g3 => rw [h2] at g2; cases g2
      | dK g1 g2 g3 => rw [h2] at g2; cases g2
      | dT g1 g2 g3 => rw [h2] at g2; cases g2
      | _ => simp [pureD] at q
  | .cls _, _, _, p, _, _, _ => by simp [pureD] at p
  | .cell _, _, _, p, _, _, _ => by simp [pureD] at p
  | .rows _, _, _, p, _, _, _ => by simp [pureD] at p
  | .scr _, _, _, p, _, _, _ => by simp [pureD] at p
  | .exc _ _ _ _, _, _, p, _, _, _ => by simp [pureD] at p
  | .err _ _, _, _, p, _, _, _ => by simp [pureD] at p
theorem RepL.one : ∀ {ds es : List D} {vs : List V}, pureL ds = true → pureL es = true → RepL φ F H vs ds → RepL φ F H vs es → ds = es
  | [], _, _, _, _, h, g => by cases h; cases g; rfl
  | d :: ds, _, _, p, q, h, g => by
    cases h with
    | cons h1 h2 =>
      cases g with
      | cons g1 g2 =>
        simp only [pureL, Bool.and_eq_true] at p q
        rw [Rep.one p.1 q.1 h1 g1, RepL.one p.2 q.2 h2 g2]
theorem RepK.one : ∀ {ds es : List (Key × D)} {vs : List (Key × V)}, pureK ds = true → pureK es = true → RepK φ F H vs ds → RepK φ F H vs es → ds = es
  | [], _, _, _, _, h, g => by cases h; cases g; rfl
  | (k, d) :: ds, _, _, p, q, h, g => by
    cases h with
    | cons h1 h2 =>
      cases g with
      | cons g1 g2 =>
        simp only [pureK, Bool.and_eq_true] at p q
        rw [Rep.one p.1 q.1 h1 g1, RepK.one p.2 q.2 h2 g2]
theorem RepT.one : ∀ {ds es : List (List Key × D)} {vs : List (List Key × V)}, pureT ds = true → pureT es = true → RepT φ F H vs ds → RepT φ F H vs es → ds = es
  | [], _, _, _, _, h, g => by cases h; cases g; rfl
  | (k, d) :: ds, _, _, p, q, h, g => by
    cases h with
    | cons h1 h2 =>
      cases g with
      | cons g1 g2 =>
        simp only [pureT, Bool.and_eq_true] at p q
        rw [Rep.one p.1 q.1 h1 g1, RepT.one p.2 q.2 h2 g2]
theorem RepF.one : ∀ {ds es : List (Str × D)} {vs : List (Str × V)}, pureF ds = true → pureF es = true → RepF φ F H vs ds → RepF φ F H vs es → ds = es
  | [], _, _, _, _, h, g => by cases h; cases g; rfl
  | (k, d) :: ds, _, _, p, q, h, g => by
    cases h with
    | cons h1 h2 =>
      cases g with
      | cons g1 g2 =>
        simp only [pureF, Bool.and_eq_true] at p q
        rw [Rep.one p.1 q.1 h1 g1, RepF.one p.2 q.2 h2 g2]
end
end
end Q
/-! len(set(texts)) for any texts -/
/-! set(list of texts); len(set(..)) -/
namespace SSX
open PySem PySem.Spec PyProof.Rows
open SS (strs_at)
abbrev bare (led : Bool) : Obj := { cls := .type "set", dict := none, data := .set #[] 0 (.fresh 0 0 led) }
end SSX
/-! len of an own object, o[k] that may raise, own == with a list, len(set(texts)), powers: over plain states -/
namespace Q
open PySem L2 PySem.Spec PyProof.Rows NdefX
section
variable {X : Cx} {C : Addr} {z : Nat × MF}
def powG : D → D → Option O
  | .int i, .int j => if (decide (0 ≤ j) && decide (j ≤ 1000) && decide (i.natAbs < 1000)) = true then some (.d (.int (i ^ j.toNat))) else none
  | _, _ => none
theorem g_pow : OpG (rI CPow fun i j => .int (i ^ j.toNat)) powG := fun c W st σ H v1 v2 d1 d2 o Q P t1 t2 e h => by
  unfold powG at e
  split at e
  · split at e
    · rename_i hc
      simp only [Bool.and_eq_true, decide_eq_true_eq] at hc
      cases e
      cases t1
      cases t2
      exact ⟨_, _, rfl, rfl, ⟨hc.1.1, by omega, by omega⟩, h.d P (.int _)⟩
    · cases e
  · cases e
end
end Q
/-! repr of lists and tuples that may hold dicts with text keys -/
namespace Q
open PySem L2 PySem.Spec PyProof.Rows NdefX
mutual
inductive DR (H : Hp) : V → PyData → Prop
  | non : DR H .non .none
  | bl (b : Bool) : DR H (.bl b) (.bool b)
  | int (i : Int) : DR H (.int i) (.int i)
  | str (x : Str) : DR H (.str x) (.str x)
  | lst {a : Addr} {xs : List V} {ps : List PyData} : H a = some (.lst xs) → DRs H xs ps → DR H (.ref a) (.list ps)
  | tup {a : Addr} {xs : List V} {ps : List PyData} : H a = some (.tup xs) → DRs H xs ps → DR H (.ref a) (.tuple ps)
  | dK {a : Addr} {xs : List (Key × V)} {ps : List (PyData × PyData)} : Rd H a (.dK xs) → DRk H xs ps → DR H (.ref a) (.dict ps)
inductive DRs (H : Hp) : List V → List PyData → Prop
  | nil : DRs H [] []
  | cons {v : V} {p : PyData} {vs : List V} {ps : List PyData} : DR H v p → DRs H vs ps → DRs H (v :: vs) (p :: ps)
inductive DRk (H : Hp) : List (Key × V) → List (PyData × PyData) → Prop
  | nil : DRk H [] []
  | cons {k : Key} {v : V} {p : PyData} {vs : List (Key × V)} {ps : List (PyData × PyData)} : DR H v p → DRk H vs ps → DRk H ((k, v) :: vs) ((kP k, p) :: ps)
end
section
variable {X : Cx} {pins : List (Addr × Obj)} {σ : L2.St} {H : Hp} {s : Shared}
theorem key_reads {k : Key} {u : Value} (h : keyIs k u = true) : Reads s.heap u (kP k) [] := by
  rcases keyIs_shape h with ⟨i, t, rfl, rfl⟩ | ⟨x, t, rfl, rfl⟩
  · exact .int i t
  · exact .str x t
mutual
theorem DR.reads (I : L2.Inv X pins σ H s) (hb : H sysModules = none) : ∀ {p : PyData} {v : V} {u : Value}, DR H v p → RelV v u → ∃ as, Reads s.heap u p as ∧ sysModules ∉ as
  | .none, _, _, h, r => by cases h; cases r; exact ⟨_, .none, List.not_mem_nil⟩
  | .bool b, _, _, h, r => by cases h; cases r; exact ⟨_, .bool b, List.not_mem_nil⟩
  | .int i, _, _, h, r => by cases h; obtain ⟨t, rfl⟩ := r; exact ⟨_, .int i t, List.not_mem_nil⟩
  | .str x, _, _, h, r => by cases h; obtain ⟨t, rfl⟩ := r; exact ⟨_, .str x t, List.not_mem_nil⟩
  | .list ps, _, _, h, r => by
    cases h with
    | lst h1 h2 =>
      cases r
      rename_i a xs
      obtain ⟨its, rv, ⟨o, n, ho, hc, _, hd⟩, _⟩ := I.list (SqL.of (K := X.K) h1)
      obtain ⟨as, q, no⟩ := DRs.reads I hb h2 rv
      refine ⟨a :: as, .list ho hc hd (by rw [show its.toArray.toList = its by simp]; exact q), fun z => ?_⟩
      rcases List.mem_cons.mp z with z | z
      · rw [← z, hb] at h1
        cases h1
      · exact no z
  | .tuple ps, _, _, h, r => by
    cases h with
    | tup h1 h2 =>
      cases r
      obtain ⟨its, rv, ⟨o, ho, hc, n, hd⟩, _⟩ := I.tuple (SqT.of (K := X.K) h1)
      obtain ⟨as, q, no⟩ := DRs.reads I hb h2 rv
      exact ⟨as, .tuple ho hc hd (by rw [show its.toArray.toList = its by simp]; exact q), no⟩
  | .dict ps, _, _, h, r => by
    cases h with
    | dK h1 h2 =>
      cases r
      rename_i a xs
      obtain ⟨_, hd, vs, rel, o, es, ep, ho, hx, hdat, _, pr, _⟩ := (show ObjOk X.prog X.w H s.heap a (.dK xs) from h1.ok I.hok)
      obtain ⟨bs, q1, q2, no⟩ := DRk.reads I hb h2 rel pr
      refine ⟨a :: [] ++ bs, .dict ho hx.1 hdat q1 q2, fun z => ?_⟩
      rcases List.mem_cons.mp z with z | z
      · rw [z] at hd
        exact absurd hd (by simp)
      · exact no z
theorem DRs.reads (I : L2.Inv X pins σ H s) (hb : H sysModules = none) : ∀ {ps : List PyData} {vs : List V} {us : List Value}, DRs H vs ps → Vals vs us → ∃ as, ReadsAll s.heap us ps as ∧ sysModules ∉ as
  | [], _, _, h, r => by cases h; cases r; exact ⟨_, .nil, List.not_mem_nil⟩
  | p :: ps, _, _, h, r => by
    cases h with
    | cons h1 h2 =>
      cases r with
      | cons r1 r2 =>
        obtain ⟨as, q1, n1⟩ := DR.reads I hb h1 r1
        obtain ⟨bs, q2, n2⟩ := DRs.reads I hb h2 r2
        exact ⟨_, .cons q1 q2, fun z => (List.mem_append.mp z).elim n1 n2⟩
theorem DRk.reads (I : L2.Inv X pins σ H s) (hb : H sysModules = none) : ∀ {ps : List (PyData × PyData)} {kvs : List (Key × V)} {vs : List (Key × Value)} {es : List DictEntry}, DRk H kvs ps → KV kvs vs → Pairs (mixKind X.prog X.w) es vs → ∃ bs, ReadsAll s.heap (es.map (·.key)) (ps.map (·.1)) [] ∧ ReadsAll s.heap (es.map (·.val)) (ps.map (·.2)) bs ∧ sysModules ∉ bs
  | [], _, _, _, h, r, pr => by cases h; cases r; cases pr; exact ⟨_, .nil, .nil, List.not_mem_nil⟩
  | p :: ps, _, _, _, h, r, pr => by
    cases h with
    | cons h1 h2 =>
      cases r with
      | cons r1 r2 =>
        cases pr with
        | cons e1 e2 e3 =>
          obtain ⟨as, q1, n1⟩ := DR.reads I hb h1 (r1.2)
          obtain ⟨bs, q2, q3, n2⟩ := DRk.reads I hb h2 r2 e3
          have ek : Reads s.heap _ (kP _) [] := key_reads (s := s) e1
          rw [← r1.1] at ek
          refine ⟨_, ReadsAll.cons (as := []) (bs := []) ek q2, .cons ?_ q3, fun z => (List.mem_append.mp z).elim n1 n2⟩
          dsimp only
          rw [e2]
          exact q1
end
def rReprR : List V → Hp → VK → Prop := fun xs H Q => ∃ (a : Addr) (p : PyData), xs = [.ref a] ∧ DR H (.ref a) p ∧ p.showable = true ∧ p.depth ≤ 60 ∧ p.shown.length ≤ sizeLine ∧ Q (.str p.shown) H
theorem call_reprR (hg : X.A.guards = some []) (hu : X.A.units + 64 < cLine) (hb : ∃ o, X.base.get? sysModules = some o) : CallR X (.builtin "repr") rReprR := by
  intro pins s σ H xs us Q I r h
  obtain ⟨a, p, rfl, hd, h1, h3, h4, q⟩ := h
  obtain rfl := Vals.ref1 r
  obtain ⟨o, ho⟩ := hb
  obtain ⟨as, R, no⟩ := hd.reads I (I.bs _ o ho).2 (u := .ref a) rfl
  exact repr_of_reads' R h1 (fun _ => no) hg (by omega) (fun b o e => e) (fun h' u tk hk => ⟨.str _, H, I.kept hk, ⟨u, rfl⟩, q⟩) h4
end
mutual
def toR : D → Option PyData
  | .non => some .none
  | .bl b => some (.bool b)
  | .int i => some (.int i)
  | .str s => some (.str s)
  | .lst xs => (toRs xs).map .list
  | .tup xs => (toRs xs).map .tuple
  | .dK kvs => (toRk kvs).map .dict
  | _ => none
def toRs : List D → Option (List PyData)
  | [] => some []
  | x :: xs => (toR x).bind fun p => (toRs xs).map fun ps => p :: ps
def toRk : List (Key × D) → Option (List (PyData × PyData))
  | [] => some []
  | (k, x) :: xs => (toR x).bind fun p => (toRk xs).map fun ps => (kP k, p) :: ps
end
section
variable {c : C0} {W : Wd} {st : Ps} {σ : L2.St} {H : Hp}
mutual
theorem Pre.dr (P : Pre c W st σ H) : ∀ {d : D} {v : V} {p : PyData}, Rp W H v d → toR d = some p → DR (lockH W.L H) v p
  | .non, _, _, h, e => by cases h; rw [toR] at e; cases e; exact .non
  | .bl b, _, _, h, e => by cases h; rw [toR] at e; cases e; exact .bl b
  | .int b, _, _, h, e => by cases h; rw [toR] at e; cases e; exact .int b
  | .str b, _, _, h, e => by cases h; rw [toR] at e; cases e; exact .str b
  | .lst xs, _, _, h, e => by
    rw [toR] at e
    obtain ⟨ps, e1, rfl⟩ := Option.map_eq_some_iff.mp e
    cases h with
    | lst h1 h2 h3 => exact .lst (P.nol h2 rfl) (P.drs h3 e1)
  | .tup xs, _, _, h, e => by
    rw [toR] at e
    obtain ⟨ps, e1, rfl⟩ := Option.map_eq_some_iff.mp e
    cases h with
    | tup h2 h3 => exact .tup (P.nol h2 rfl) (P.drs h3 e1)
  | .dK xs, _, _, h, e => by
    rw [toR] at e
    obtain ⟨ps, e1, rfl⟩ := Option.map_eq_some_iff.mp e
    cases h with
    | dK h1 h2 h3 => exact .dK (lock_rd h2) (P.drk h3 e1)
  | .byt _, _, _, _, e => by rw [toR] at e <;> first | cases e | (intros; contradiction)
  | .ty _, _, _, _, e => by rw [toR] at e <;> first | cases e | (intros; contradiction)
  | .dT _, _, _, _, e => by rw [toR] at e <;> first | cases e | (intros; contradiction)
  | .ins _ _, _, _, _, e => by rw [toR] at e <;> first | cases e | (intros; contradiction)
  | .cell _, _, _, _, e => by rw [toR] at e <;> first | cases e | (intros; contradiction)
  | .cls _, _, _, _, e => by rw [toR] at e <;> first | cases e | (intros; contradiction)
  | .exc _ _ _ _, _, _, _, e => by rw [toR] at e <;> first | cases e | (intros; contradiction)
  | .err _ _, _, _, _, e => by rw [toR] at e <;> first | cases e | (intros; contradiction)
  | .scr _, _, _, _, e => by rw [toR] at e <;> first | cases e | (intros; contradiction)
  | .rows _, _, _, _, e => by rw [toR] at e <;> first | cases e | (intros; contradiction)
theorem Pre.drs (P : Pre c W st σ H) : ∀ {ds : List D} {vs : List V} {ps : List PyData}, RepL W.φ W.F H vs ds → toRs ds = some ps → DRs (lockH W.L H) vs ps
  | [], _, _, h, e => by cases h; rw [toRs] at e; cases e; exact .nil
  | d :: ds, _, _, h, e => by
    rw [toRs] at e
    obtain ⟨p, e1, e⟩ := Option.bind_eq_some_iff.mp e
    obtain ⟨ps, e2, rfl⟩ := Option.map_eq_some_iff.mp e
    cases h with
    | cons h1 h2 => exact .cons (P.dr h1 e1) (P.drs h2 e2)
theorem Pre.drk (P : Pre c W st σ H) : ∀ {ds : List (Key × D)} {vs : List (Key × V)} {ps : List (PyData × PyData)}, RepK W.φ W.F H vs ds → toRk ds = some ps → DRk (lockH W.L H) vs ps
  | [], _, _, h, e => by cases h; rw [toRk] at e; cases e; exact .nil
  | (k, d) :: ds, _, _, h, e => by
    rw [toRk] at e
    obtain ⟨p, e1, e⟩ := Option.bind_eq_some_iff.mp e
    obtain ⟨ps, e2, rfl⟩ := Option.map_eq_some_iff.mp e
    cases h with
    | cons h1 h2 => exact .cons (P.dr h1 e1) (P.drk h2 e2)
end
end
def reprR : Gc := fun ds J => match ds with
  | [.lst xs] => opt (toR (.lst xs)) fun p => showsQ p J
  | [.tup xs] => opt (toR (.tup xs)) fun p => showsQ p J
  | _ => False
theorem g_reprR : CallG rReprR reprR := fun c W st σ H vs ds Q J P t g k => by
  unfold reprR at g
  split at g
  · obtain ⟨v, rfl, t1⟩ := tops_1 t
    obtain ⟨p, e, h1, h2, h3, h4⟩ := opt_ex g
    rw [toR] at e
    obtain ⟨ps, e1, rfl⟩ := Option.map_eq_some_iff.mp e
    cases t1 with
    | lst l1 l2 => exact ⟨_, _, rfl, .lst (P.nol l1 rfl) (P.drs l2 e1), h1, h2, h3, (k _ h4).d P (.str _)⟩
  · obtain ⟨v, rfl, t1⟩ := tops_1 t
    obtain ⟨p, e, h1, h2, h3, h4⟩ := opt_ex g
    rw [toR] at e
    obtain ⟨ps, e1, rfl⟩ := Option.map_eq_some_iff.mp e
    cases t1 with
    | tup l1 l2 => exact ⟨_, _, rfl, .tup (P.nol l1 rfl) (P.drs l2 e1), h1, h2, h3, (k _ h4).d P (.str _)⟩
  · exact g.elim
end Q
/-! list(d.values()); repr of None; a class called with no arguments -/
namespace Q
open PySem L2 PySem.Spec PyProof.Rows NdefX
section
variable {X : Cx}
theorem call_or {f : Value} {r1 r2 : List V → Hp → VK → Prop} (h1 : CallR X f r1) (h2 : CallR X f r2) : CallR X f (fun xs H Q => r1 xs H Q ∨ r2 xs H Q) := fun pins s σ H xs us Q I r h => h.elim (h1 pins s σ H xs us Q I r) (h2 pins s σ H xs us Q I r)
end
end Q
/-! sorted(set(list of ints)) -/
/-! xs[::-1] of a list or a tuple -/
namespace Q
open PySem L2 PySem.Spec PyProof.Rows
section
variable {X : Cx}
theorem RepL.back {φ F H} {vs : List V} {ds : List D} (r : RepL φ F H vs ds) : RepL φ F H vs.reverse ds.reverse := by
  induction vs generalizing ds with
  | nil => cases r; exact .nil
  | cons v vs ih =>
    cases r with
    | cons h t =>
      rw [List.reverse_cons, List.reverse_cons]
      exact RepL.snoc (ih t) h
end
end Q
/-! calls of defs that want no repr under way; o.p whose answer is a dict that may be emptied -/
/-! repr of a list with dicts of the store; d.clear() of such a dict -/
/-! a slot's own list that stays its own while an expression has it, where nothing is changed and the answer holds no list -/
namespace Q
open PySem L2 PySem.Spec PyProof.Rows
mutual
def noL : D → Bool
  | .lst _ => false
  | .scr _ => false
  | .tup xs => noLs xs
  | .dK kvs => noLk kvs
  | .dT kvs => noLt kvs
  | .ins _ fs => noLf fs
  | .exc _ _ _ fs => noLf fs
  | .err _ fs => noLf fs
  | _ => true
def noLs : List D → Bool
  | [] => true
  | x :: xs => noL x && noLs xs
def noLk : List (Key × D) → Bool
  | [] => true
  | (_, x) :: xs => noL x && noLk xs
def noLt : List (List Key × D) → Bool
  | [] => true
  | (_, x) :: xs => noL x && noLt xs
def noLf : List (Str × D) → Bool
  | [] => true
  | (_, x) :: xs => noL x && noLf xs
end
end Q
/-! sorted(a list of tuples (text, x)), the texts all unlike -/
namespace SrtN
open PySem PyProof.Rows PySem.W SrtO
def NamAt (h : Heap) (v : Value) (b : Str) (y : Value) : Prop := ∃ a o t n, v = .ref a ∧ h.get? a = some o ∧ o.cls = .type "tuple" ∧ o.data = .seq #[.str b t, y] n
section
variable {prog : Program} {w : World} {A : Around} {E : Value → Shared → Prop} {s : Shared}
theorem NamAt.keeps {h h' : Heap} {v y : Value} {b : Str} (k : ∀ a o, h.get? a = some o → o.cls = .type "tuple" → h'.get? a = some o) (q : NamAt h v b y) : NamAt h' v b y := by
  obtain ⟨a, o, t, n, e, ho, hc, hd⟩ := q
  exact ⟨a, o, t, n, e, k a o ho hc, hc, hd⟩
end
end SrtN
/-! sorted(a list of tuples (text, x)) over plain data -/
/-! def told(call): try: call() / except C as e: return [e.f, isinstance(e, ValueError)] / return None -/
/-! told(lambda: e), told of the kind of P101, over plain states -/
/-! the walk of a law with a def that makes lambdas, where repr is wanted, too -/
/-! len(set(list or tuple of texts)); repr of a dict; o == a tuple; != of dicts -/
/-! a list of anything != []; o == a tuple -/
/-! an expression in a calm state: it sees the slots' plain data alone, no cells; its answer holds no list; the slots stay as they were -/
namespace Q
open PySem L2 PySem.Spec PyProof.Rows
mutual
def noC : D → Bool
  | .cell _ => false
  | .rows _ => false
  | .lst xs => noCs xs
  | .tup xs => noCs xs
  | .dK kvs => noCk kvs
  | .dT kvs => noCt kvs
  | .ins _ fs => noCf fs
  | .exc _ _ _ fs => noCf fs
  | .err _ fs => noCf fs
  | _ => true
def noCs : List D → Bool
  | [] => true
  | x :: xs => noC x && noCs xs
def noCk : List (Key × D) → Bool
  | [] => true
  | (_, x) :: xs => noC x && noCk xs
def noCt : List (List Key × D) → Bool
  | [] => true
  | (_, x) :: xs => noC x && noCt xs
def noCf : List (Str × D) → Bool
  | [] => true
  | (_, x) :: xs => noC x && noCf xs
end
section
variable {φ φ2 : List (Addr × Addr)} {F F2 : Addr → Prop} {H : Hp} {P : Addr → Prop}
mutual
theorem Rep.lift (hF : ∀ x, F x → F2 x) : ∀ {d : D} {v : V}, Rep φ F H v d → noC d = true → Rep φ2 F2 H v d
  | .non, _, h, _ => by cases h; exact .non
  | .bl b, _, h, _ => by cases h; exact .bl b
  | .int b, _, h, _ => by cases h; exact .int b
  | .str b, _, h, _ => by cases h; exact .str b
  | .byt b, _, h, _ => by cases h; exact .byt b
  | .ty b, _, h, _ => by cases h; exact .ty b
  | .cls b, _, h, _ => by cases h; exact .cls b
  | .cell n, _, h, e => by rw [noC] at e; cases e
  | .rows n, _, h, e => by rw [noC] at e; cases e
  | .lst ds, _, h, e => by
    rw [noC] at e
    cases h with
    | lst h1 h2 h3 => exact .lst (hF _ h1) h2 (RepL.lift hF h3 e)
  | .scr ns, _, h, _ => by
    cases h with
    | scr h1 h2 => exact .scr (hF _ h1) h2
  | .tup ds, _, h, e => by
    rw [noC] at e
    cases h with
    | tup h2 h3 => exact .tup h2 (RepL.lift hF h3 e)
  | .dK ds, _, h, e => by
    rw [noC] at e
    cases h with
    | dK h1 h2 h3 => exact .dK (hF _ h1) h2 (RepK.lift hF h3 e)
  | .dT ds, _, h, e => by
    rw [noC] at e
    cases h with
    | dT h1 h2 h3 => exact .dT (hF _ h1) h2 (RepT.lift hF h3 e)
  | .ins C ds, _, h, e => by
    rw [noC] at e
    cases h with
    | ins h1 h2 h3 => exact .ins (hF _ h1) h2 (RepF.lift hF h3 e)
  | .exc x d C ds, _, h, e => by
    rw [noC] at e
    cases h with
    | exc h1 h2 h3 => exact .exc (hF _ h1) h2 (RepF.lift hF h3 e)
  | .err C ds, _, h, e => by
    rw [noC] at e
    cases h with
    | err h0 h1 h2 h3 h4 => exact .err (hF _ h0) h1 (hF _ h2) h3 (RepF.lift hF h4 e)
    | err0 h0 h1 => exact .err0 (hF _ h0) h1
theorem RepL.lift (hF : ∀ x, F x → F2 x) : ∀ {ds : List D} {vs : List V}, RepL φ F H vs ds → noCs ds = true → RepL φ2 F2 H vs ds
  | [], _, h, _ => by cases h; exact .nil
  | d :: ds, _, h, e => by
    rw [noCs, Bool.and_eq_true] at e
    cases h with
    | cons h1 h2 => exact .cons (Rep.lift hF h1 e.1) (RepL.lift hF h2 e.2)
theorem RepK.lift (hF : ∀ x, F x → F2 x) : ∀ {ds : List (Key × D)} {vs : List (Key × V)}, RepK φ F H vs ds → noCk ds = true → RepK φ2 F2 H vs ds
  | [], _, h, _ => by cases h; exact .nil
  | (k, d) :: ds, _, h, e => by
    rw [noCk, Bool.and_eq_true] at e
    cases h with
    | cons h1 h2 => exact .cons (Rep.lift hF h1 e.1) (RepK.lift hF h2 e.2)
theorem RepT.lift (hF : ∀ x, F x → F2 x) : ∀ {ds : List (List Key × D)} {vs : List (List Key × V)}, RepT φ F H vs ds → noCt ds = true → RepT φ2 F2 H vs ds
  | [], _, h, _ => by cases h; exact .nil
  | (k, d) :: ds, _, h, e => by
    rw [noCt, Bool.and_eq_true] at e
    cases h with
    | cons h1 h2 => exact .cons (Rep.lift hF h1 e.1) (RepT.lift hF h2 e.2)
theorem RepF.lift (hF : ∀ x, F x → F2 x) : ∀ {ds : List (Str × D)} {vs : List (Str × V)}, RepF φ F H vs ds → noCf ds = true → RepF φ2 F2 H vs ds
  | [], _, h, _ => by cases h; exact .nil
  | (k, d) :: ds, _, h, e => by
    rw [noCf, Bool.and_eq_true] at e
    cases h with
    | cons h1 h2 => exact .cons (Rep.lift hF h1 e.1) (RepF.lift hF h2 e.2)
end
theorem ext_lst {φ : Heap → Prop} : ∀ ys, (HO.ext φ) ≠ .lst ys := fun ys z => nomatch z
theorem calm_P {u : HO} {x : Addr} (hP : ∀ x, F x → ¬ P x → ∃ ys, H x = some (.lst ys)) (h1 : F x) (h2 : H x = some u) (hu : ∀ ys, u ≠ .lst ys) : F x ∧ P x :=
  ⟨h1, Classical.byContradiction fun n => by
    obtain ⟨ys, e⟩ := hP x h1 n
    rw [h2] at e
    exact hu ys (Option.some.inj e)⟩
mutual
theorem Rep.calm (hP : ∀ x, F x → ¬ P x → ∃ ys, H x = some (.lst ys)) : ∀ {d : D} {v : V}, Rep [] F H v d → noL d = true → Rep φ2 (fun x => F x ∧ P x) H v d
  | .non, _, h, _ => by cases h; exact .non
  | .bl b, _, h, _ => by cases h; exact .bl b
  | .int b, _, h, _ => by cases h; exact .int b
  | .str b, _, h, _ => by cases h; exact .str b
  | .byt b, _, h, _ => by cases h; exact .byt b
  | .ty b, _, h, _ => by cases h; exact .ty b
  | .cls b, _, h, _ => by cases h; exact .cls b
  | .cell n, _, h, _ => by
    cases h with
    | cell e => cases e
  | .rows n, _, h, _ => by
    cases h with
    | rows e => cases e
  | .lst ds, _, h, e => by rw [noL] at e; cases e
  | .scr ds, _, h, e => by rw [noL] at e; cases e
  | .tup ds, _, h, e => by
    rw [noL] at e
    cases h with
    | tup h2 h3 => exact .tup h2 (RepL.calm hP h3 e)
  | .dK ds, _, h, e => by
    rw [noL] at e
    cases h with
    | dK h1 h2 h3 => exact .dK (calm_P hP h1 h2 nofun) h2 (RepK.calm hP h3 e)
  | .dT ds, _, h, e => by
    rw [noL] at e
    cases h with
    | dT h1 h2 h3 => exact .dT (calm_P hP h1 h2 nofun) h2 (RepT.calm hP h3 e)
  | .ins C ds, _, h, e => by
    rw [noL] at e
    cases h with
    | ins h1 h2 h3 => exact .ins (calm_P hP h1 h2 nofun) h2 (RepF.calm hP h3 e)
  | .exc x d C ds, _, h, e => by
    rw [noL] at e
    cases h with
    | exc h1 h2 h3 => exact .exc (calm_P hP h1 h2 nofun) h2 (RepF.calm hP h3 e)
  | .err C ds, _, h, e => by
    rw [noL] at e
    cases h with
    | err h0 h1 h2 h3 h4 => exact .err (calm_P hP h0 h1 ext_lst) h1 (calm_P hP h2 h3 ext_lst) h3 (RepF.calm hP h4 e)
    | err0 h0 h1 => exact .err0 (calm_P hP h0 h1 ext_lst) h1
theorem RepL.calm (hP : ∀ x, F x → ¬ P x → ∃ ys, H x = some (.lst ys)) : ∀ {ds : List D} {vs : List V}, RepL [] F H vs ds → noLs ds = true → RepL φ2 (fun x => F x ∧ P x) H vs ds
  | [], _, h, _ => by cases h; exact .nil
  | d :: ds, _, h, e => by
    rw [noLs, Bool.and_eq_true] at e
    cases h with
    | cons h1 h2 => exact .cons (Rep.calm hP h1 e.1) (RepL.calm hP h2 e.2)
theorem RepK.calm (hP : ∀ x, F x → ¬ P x → ∃ ys, H x = some (.lst ys)) : ∀ {ds : List (Key × D)} {vs : List (Key × V)}, RepK [] F H vs ds → noLk ds = true → RepK φ2 (fun x => F x ∧ P x) H vs ds
  | [], _, h, _ => by cases h; exact .nil
  | (k, d) :: ds, _, h, e => by
    rw [noLk, Bool.and_eq_true] at e
    cases h with
    | cons h1 h2 => exact .cons (Rep.calm hP h1 e.1) (RepK.calm hP h2 e.2)
theorem RepT.calm (hP : ∀ x, F x → ¬ P x → ∃ ys, H x = some (.lst ys)) : ∀ {ds : List (List Key × D)} {vs : List (List Key × V)}, RepT [] F H vs ds → noLt ds = true → RepT φ2 (fun x => F x ∧ P x) H vs ds
  | [], _, h, _ => by cases h; exact .nil
  | (k, d) :: ds, _, h, e => by
    rw [noLt, Bool.and_eq_true] at e
    cases h with
    | cons h1 h2 => exact .cons (Rep.calm hP h1 e.1) (RepT.calm hP h2 e.2)
theorem RepF.calm (hP : ∀ x, F x → ¬ P x → ∃ ys, H x = some (.lst ys)) : ∀ {ds : List (Str × D)} {vs : List (Str × V)}, RepF [] F H vs ds → noLf ds = true → RepF φ2 (fun x => F x ∧ P x) H vs ds
  | [], _, h, _ => by cases h; exact .nil
  | (k, d) :: ds, _, h, e => by
    rw [noLf, Bool.and_eq_true] at e
    cases h with
    | cons h1 h2 => exact .cons (Rep.calm hP h1 e.1) (RepF.calm hP h2 e.2)
end
end
def calmO : O → O
  | .d x => if noC x = true then .d x else .un
  | .lst xs => if noCs xs = true then .d (.lst xs) else .un
  | _ => .un
theorem calmO_flat (o : O) : (calmO o).owned = false := by
  cases o with
  | d x => show O.owned (if noC x = true then .d x else .un) = false; split <;> rfl
  | lst x => show O.owned (if noCs x = true then .d (.lst x) else .un) = false; split <;> rfl
  | _ => rfl
def Wd.calm (W : Wd) (ρ : List O) (σ : L2.St) : Wd := { φ := [], owns := [], F := fun a => W.F a ∨ ∃ (i : Nat) (xs : List D), ρ[i]? = some (O.lst xs) ∧ σ[i]? = some (some (V.ref a)), L := W.L }
theorem Wd.calm_own {W : Wd} {ρ : List O} {σ : L2.St} {a : Addr} : ¬ (W.calm ρ σ).own a := fun ⟨w, h, _⟩ => by cases h
abbrev C0.calm (W : Wd) (H : Hp) : C0 := { W0 := W, H0 := H, rw := false, E := E0k, R := fun _ => False }
theorem calm_get {ρ : List O} {i : Nat} {o : O} (h : (ρ.map calmO)[i]? = some o) : ∃ p, ρ[i]? = some p ∧ o = calmO p := by
  rw [List.getElem?_map] at h
  obtain ⟨p, h1, h2⟩ := Option.map_eq_some_iff.mp h
  exact ⟨p, h1, h2.symm⟩
theorem Pre.calm {c : C0} {W : Wd} {st : Ps} {σ : L2.St} {H : Hp} (P : Pre c W st σ H) (hL : c.rw = false → ∀ a, ¬ W.own a) : Pre (C0.calm (W.calm st.ρ σ) H) (W.calm st.ρ σ) ⟨st.ρ.map calmO, [], false, false⟩ σ H := by
  have fd : ∀ a, (W.calm st.ρ σ).F a → ∃ o, H a = some o := fun a h => by
    rcases h with h | ⟨i, xs, h1, h2⟩
    · exact P.base.fdom a h
    · obtain ⟨u, e, _⟩ := P.sthere ⟨_, h1, rfl, h2⟩
      exact ⟨u, e⟩
  have no : ∀ i a, ¬ slotOwns (st.ρ.map calmO) σ i a := fun i a ⟨o, h1, h2, _⟩ => by
    obtain ⟨p, _, rfl⟩ := calm_get h1
    rw [calmO_flat] at h2
    cases h2
  refine ⟨rfl, Step.refl _ _ _, fun a h => .inl h, ⟨fd, ⟨rfl, rfl⟩, fun n a x w h => (by cases h), fun m n w w' x h => (by cases h), (fun z => by cases z), P.base.lN, fun a o h => ?_⟩, ?_, fun i o h => ?_, fun i a h => (no i a h).elim, fun i j a h => (no i a h).elim, fun a h => h.elim, (fun z => by cases z), fun a h => (Wd.calm_own h).elim⟩
  · obtain ⟨h1, h2⟩ := P.base.lF a o h
    refine ⟨.inl ?_, h2⟩
    rcases h1 with h1 | ⟨hr, h1⟩
    · exact .inl h1
    · exact (hL hr a h1).elim
  · show (st.ρ.map calmO).length = _
    rw [List.length_map]
    exact P.slen
  · obtain ⟨p, hp, rfl⟩ := calm_get h
    have s := P.slot i p hp
    cases p with
    | d x =>
      show SlotOk _ H (if noC x = true then .d x else .un) _
      split
      · rename_i e
        obtain ⟨v, e1, e2⟩ := (s : ∃ v, _ = some v ∧ Rp W H v x)
        exact ⟨v, e1, Rep.lift (fun a h => .inl h) e2 e⟩
      · trivial
    | lst xs =>
      show SlotOk _ H (if noCs xs = true then .d (.lst xs) else .un) _
      split
      · rename_i e
        obtain ⟨a, e1, ys, e2, e3⟩ := (s : ∃ a, _ = some (V.ref a) ∧ ∃ ys, H a = some (.lst ys) ∧ RepL W.φ W.F H ys xs)
        exact ⟨.ref a, e1, .lst (.inr ⟨i, xs, hp, join_ref e1⟩) e2 (RepL.lift (fun a h => .inl h) e3 e)⟩
      · trivial
    | un => trivial
    | dK _ => trivial
    | dT _ => trivial
    | ins _ _ _ => trivial
end Q
/-! xs[i] = v and xs.clear() of a slot's own list; an own != with None -/
/-! {e for .. in .. for .. in .. if ..} over whole numbers -/
namespace L2
open PySem PySem.Spec PyProof.Rows PpSet
end L2
/-! sorted({e for .. in .. for .. in .. if ..}), sorted(set(..)), list(range(..)) over plain states -/
namespace Q
open PySem L2 PySem.Spec PyProof.Rows NdefX
def SetAt (w : World) (H : Hp) (D : Addr) (acc : List Int) : Prop := ∃ n, n ≤ acc.length ∧ H D = some (SetO w D (fun j => decide (j ∈ acc)) n)
theorem SetAt.add {w : World} {H : Hp} {D : Addr} {acc : List Int} {n : Nat} (hn : n ≤ acc.length) (k : Int) : SetAt w (upd H D (SetO w D (fun j => decide (j ∈ acc) || decide (j = k)) (if decide (k ∈ acc) = true then n else n + 1))) D (acc ++ [k]) := by
  refine ⟨if decide (k ∈ acc) = true then n else n + 1, by rw [List.length_append, List.length_singleton]; split <;> omega, ?_⟩
  rw [upd_same]
  have : (fun j => decide (j ∈ acc) || decide (j = k)) = fun j => decide (j ∈ acc ++ [k]) := by
    funext j
    rw [Bool.eq_iff_iff]
    simp
  rw [this]
end Q
/-! sorted(set(whole numbers)), list(range(n)), sorted of a set comprehension, over plain states -/
/-! a test in a calm state; repr of any plain value -/
namespace Q
open PySem L2 PySem.Spec PyProof.Rows NdefX
section
variable {X : Cx}
def rRepr0 : List V → Hp → VK → Prop := fun xs H Q => (xs = [.non] ∧ Q (.str "None") H) ∨ (∃ b, xs = [.bl b] ∧ Q (.str (if b = true then "True" else "False")) H) ∨ (∃ i : Int, xs = [.int i] ∧ i.natAbs.log2 < 1920 ∧ Q (.str (toString i)) H) ∨ (∃ s, xs = [.str s] ∧ (reprText s).length ≤ sizeLine ∧ Q (.str (reprText s)) H)
theorem call_repr0 : CallR X (.builtin "repr") rRepr0 := by
  intro pins s σ H xs us Q I r h
  rcases h with ⟨rfl, q⟩ | ⟨b, rfl, q⟩ | ⟨i, rfl, hi, q⟩ | ⟨x, rfl, hx, q⟩
  · obtain ⟨u, rfl, ru⟩ := r.one
    cases ru
    exact PySem.P.repr_of_none ⟨.str _, H, I.tok _, ⟨_, rfl⟩, q⟩
  · obtain ⟨u, rfl, ru⟩ := r.one
    cases ru
    refine PySem.P.repr_of_bool ⟨.str _, H, I.tok _, ⟨_, rfl⟩, ?_⟩
    cases b <;> exact q
  · obtain ⟨u, rfl, ru⟩ := r.one
    obtain ⟨t, rfl⟩ := ru
    exact PySem.P.repr_of_int hi ⟨.str _, H, I.tok _, ⟨_, rfl⟩, q⟩
  · obtain ⟨u, rfl, ru⟩ := r.one
    obtain ⟨t, rfl⟩ := ru
    exact PySem.P.repr_of_str ⟨.str _, H, I.tok _, ⟨_, rfl⟩, q⟩ hx
end
def reprA : Gc := fun ds J => match ds with
  | [.non] => J (.d (.str "None"))
  | [.bl b] => J (.d (.str (if b = true then "True" else "False")))
  | [.int i] => i.natAbs.log2 < 1920 ∧ J (.d (.str (toString i)))
  | [.str s] => (reprText s).length ≤ sizeLine ∧ J (.d (.str (reprText s)))
  | ds => reprR ds J
theorem g_reprA : CallG (fun xs H Q => rRepr0 xs H Q ∨ rReprR xs H Q) reprA := fun c W st σ H vs ds Q J P t g k => by
  unfold reprA at g
  split at g
  · obtain ⟨v, rfl, t1⟩ := tops_1 t
    cases t1
    exact .inl (.inl ⟨rfl, (k _ g).d P (.str _)⟩)
  · obtain ⟨v, rfl, t1⟩ := tops_1 t
    cases t1
    exact .inl (.inr (.inl ⟨_, rfl, (k _ g).d P (.str _)⟩))
  · obtain ⟨v, rfl, t1⟩ := tops_1 t
    cases t1
    exact .inl (.inr (.inr (.inl ⟨_, rfl, g.1, (k _ g.2).d P (.str _)⟩)))
  · obtain ⟨v, rfl, t1⟩ := tops_1 t
    cases t1
    exact .inl (.inr (.inr (.inr ⟨_, rfl, g.1, (k _ g.2).d P (.str _)⟩)))
  · exact .inr (g_reprR c W st σ H vs _ Q J P t g k)
end Q
/-! arguments with a star; min of two ints -/
namespace Q
open PySem L2 PySem.Spec PyProof.Rows StX
def minG : Gc := fun ds J => match ds with
  | [.int a, .int b] => J (.d (.int (if b < a then b else a)))
  | _ => False
theorem g_min : CallG (rNuC2 nuMin2) minG := fun c W st σ H vs ds Q J P t g k => by
  unfold minG at g
  split at g
  · obtain ⟨v, w, rfl, t1, t2⟩ := tops_2 t
    cases t1
    cases t2
    rename_i a b
    refine ⟨_, _, .int (if b < a then b else a), rfl, ?_, (k _ g).d P (.int _)⟩
    show (some (decide (b < a))).map (fun c => if c = true then V.int b else V.int a) = _
    by_cases h : b < a
    · simp [h]
    · simp [h]
  · exact g.elim
end Q
/-! try with any number of clauses, with names or without -/
namespace Q
open PySem L2 PySem.Spec PyProof.Rows
abbrev Clause := Value × Option Nat × (Addr → Value → Option Addr → TS)
def SuiteOk (X : Cx) (suite : List Stmt) (ts : Addr → Value → Option Addr → TS) : Prop := ∀ (a : Addr) (oe : Obj) (cls : Value) (d : Option Addr) (pn : List (Addr × Obj)), Zc cls d oe → (∃ vs, oe.data = .fields vs) → PSs (X.suite a ((a, oe) :: pn)) suite (ts a cls d)
inductive Clauses (X : Cx) : List ExceptHandler → List Clause → Prop
  | nil : Clauses X [] []
  | named {x n : Str} {c : Value} {i : Nat} {ts : Addr → Value → Option Addr → TS} {b₀ : Stmt} {suite : List Stmt} {p p' : Pos} {hds : List ExceptHandler} {l : List Clause} (hi : X.N[i]? = some n) (hl : X.env.kindOf n = some .local) (hc : Names X x c) (hs : SuiteOk X (b₀ :: suite) ts) (r : Clauses X hds l) :
      Clauses X (.ExceptHandler (some (.Name x p)) (some n) (b₀ :: suite) p' :: hds) ((c, some i, ts) :: l)
  | bare {x : Str} {c : Value} {ts : Addr → Value → Option Addr → TS} {b₀ : Stmt} {suite : List Stmt} {p p' : Pos} {hds : List ExceptHandler} {l : List Clause} (hc : Names X x c) (hs : SuiteOk X (b₀ :: suite) ts) (r : Clauses X hds l) :
      Clauses X (.ExceptHandler (some (.Name x p)) none (b₀ :: suite) p' :: hds) ((c, none, ts) :: l)
end Q
/-! try with any number of clauses over plain states -/
namespace Q
open PySem L2 PySem.Spec PyProof.Rows NdefX LamX
abbrev PCl := Value × Option Nat × (Addr → Option Addr → Value → Sx)
inductive PClauses (X : Cx) : List ExceptHandler → List PCl → Prop
  | nil : PClauses X [] []
  | named {x n : Str} {c : Value} {i : Nat} {fs : Addr → Option Addr → Value → Sx} {b₀ : Stmt} {suite : List Stmt} {p p' : Pos} {hds : List ExceptHandler} {l : List PCl} (hi : X.N[i]? = some n) (hl : X.env.kindOf n = some .local) (hc : Names X x c)
      (hs : ∀ (a : Addr) (oe : Obj) (cls : Value) (d : Option Addr) (pn : List (Addr × Obj)), Zc cls d oe → (∃ vs, oe.data = .fields vs) → PXB (X.suite a ((a, oe) :: pn)) (b₀ :: suite) (fs a d cls)) (r : PClauses X hds l) :
      PClauses X (.ExceptHandler (some (.Name x p)) (some n) (b₀ :: suite) p' :: hds) ((c, some i, fs) :: l)
  | bare {x : Str} {c : Value} {fs : Addr → Option Addr → Value → Sx} {b₀ : Stmt} {suite : List Stmt} {p p' : Pos} {hds : List ExceptHandler} {l : List PCl} (hc : Names X x c)
      (hs : ∀ (a : Addr) (oe : Obj) (cls : Value) (d : Option Addr) (pn : List (Addr × Obj)), Zc cls d oe → (∃ vs, oe.data = .fields vs) → PXB (X.suite a ((a, oe) :: pn)) (b₀ :: suite) (fs a d cls)) (r : PClauses X hds l) :
      PClauses X (.ExceptHandler (some (.Name x p)) none (b₀ :: suite) p' :: hds) ((c, none, fs) :: l)
def vcl (c : C0) (z : PCl) : Clause := (z.1, z.2.1, fun a cls d => tXS0 { c with E := fun _ _ _ => False } (z.2.2 a d cls))
section
variable {X : Cx} {body : List Stmt} {h₀ : ExceptHandler} {hds : List ExceptHandler} {cl : List PCl} {pos : Pos} {fb : Sx}
theorem lk_no {c : C0} : Lk X { c with E := fun _ _ _ => False } := fun u s' x => by
  obtain ⟨_, _, _, _, _, _, _, _, _, _, _, _, _, _, _, _, _, _, _, _, _, _, _, _, _, z⟩ := x
  exact z.elim
theorem PClauses.to (c : C0) (h : PClauses X hds cl) : Clauses X hds (cl.map (vcl c)) := by
  induction h with
  | nil => exact .nil
  | named hi hl hc hs r ih => exact .named hi hl hc (fun a oe cls d pn hz hd => pxb0_of (hs a oe cls d pn hz hd) _ lk_no) ih
  | bare hc hs r ih => exact .bare hc (fun a oe cls d pn hz hd => pxb0_of (hs a oe cls d pn hz hd) _ lk_no) ih
end
end Q
/-! def told(call): try: call() / except C as e: return .. (any number of clauses) / return None; told(lambda: e) -/
/-! def pick(pen, xs): return xs[draw(pen, len(xs))], where xs is a slot's own list and stays so -/
/-! a def that makes lambdas and shows texts of values -/
/-! a class called with keywords in the other order -/
/-! is, is not of two truths -/
/-! len of the script -/
namespace Q
open PySem L2 PySem.Spec PyProof.Rows
def lenScrG (K : Frg) : Gc := fun ds J => match ds with
  | [.scr xs] => J (.d (.int xs.length))
  | [.cls a] => ∃ ns : List Int, KL K a ns ∧ J (.d (.int ns.length))
  | _ => False
theorem g_lenScr (K : PySem.W.Frag) : CallG (rLenA K) (lenScrG K) := fun c W st σ H vs ds Q J P t g k => by
  unfold lenScrG at g
  split at g
  · exact g_len K c W st σ H vs _ Q J P t g k
  · obtain ⟨v, rfl, t1⟩ := tops_1 t
    obtain ⟨ns, hk, z⟩ := g
    cases t1
    exact .inl ⟨_, (ns.map V.int).length, rfl, .inl ⟨_, .inr hk, rfl⟩, by rw [List.length_map]; exact (k _ z).d P (.int _)⟩
  · exact g.elim
end Q
namespace Q
open PySem L2 PySem.Spec PyProof.Rows NdefX Builtin Builtin.ObjectAttr HandSPX
section
variable {P : Program} {w : World} {A : Around} {R : Result → Shared → Prop} {hp : Heap} {g : Array GenState} {dr : Drawn} {tk : Nat} {os : OsState} {nm q : Str} {C N : Addr} {bs bm tl : List Value} {hd : Bool} {sn : List Str} {sub : List Value} {ab : Bool} {col : Option Bool} {dd : Option Addr} {k0 k1 k2 k3 k5 : Option Value} {B newId initId : String} {kw : List (Str × Value)}
/-- the signs of C, over B -/
abbrev ClsO (nm q : Str) (C N : Addr) (bs bm : List Value) (hd : Bool) (sn : List Str) (sub : List Value) (ab : Bool) (col : Option Bool) (dd : Option Addr) (k0 k1 k2 k3 k5 : Option Value) (newId : String) : Obj := excClassObj nm q C N bs bm hd sn sub ab col dd k0 k1 k2 k3 k5 newId
theorem kw_check {M : Model} {E : Value → Shared → Prop} {Q : Unit → Shared → Prop} (b : BErr B newId initId tl) (hT : ∀ X : String, bm.contains (.type X) = tl.contains (.type X)) (oC : hp.get? C = some (ClsO nm q C N bs bm hd sn sub ab col dd k0 k1 k2 k3 k5 newId)) (z : Q () ⟨hp, g, dr, tk, os⟩) : wpAny M A (checkBuiltinCall newId ⟨[.ref C], kw⟩) Q E ⟨hp, g, dr, tk, os⟩ := by
  have c1 : (Value.ref C :: bm).contains (.type B) = true := by rw [List.contains_cons, hT, b.F.hasB, Bool.or_true]
  have c2 := b.F.noStar
  simp only [checkBuiltinCall, b.F.newKind, b.F.newSplit, b.F.newRow]
  repeat (first | refine wpAny_loadPart_at oC ?_ | (refine wpAny_isSubtype_exc oC ?_; rw [c1]) | refine wpAny_staticBase_exc oC ?_ | refine wpAny_madeBy_exc oC ?_ | simp only [bne_self_eq_false, Bool.false_eq_true, if_false] | wp_step)
  exact z
theorem kw_new (b : BErr B newId initId tl) (hT : ∀ X : String, bm.contains (.type X) = tl.contains (.type X)) (oC : hp.get? C = some (ClsO nm q C N bs bm hd sn sub ab col dd k0 k1 k2 k3 k5 newId))
    (z : R (.ok (.ret (.ref (hp.objs.size + 1)))) ⟨(hp.push (PySem.W.kdv_tup [])).push (excO C hp.objs.size), g, dr, tk, os⟩) : codeAny (model P w) A (.builtin newId ⟨[.ref C], kw⟩) R ⟨hp, g, dr, tk, os⟩ := by
  have c0 := b.F.ends
  have c1 : (Value.ref C :: bm).contains (.type B) = true := by rw [List.contains_cons, hT, b.F.hasB, Bool.or_true]
  have c2 : (Value.ref C :: bm).contains (.type "AttributeError") = false := by rw [List.contains_cons, hT, b.F.noAttr]; rfl
  have c3 : (Value.ref C :: bm).contains (.type "NameError") = false := by rw [List.contains_cons, hT, b.F.noName]; rfl
  refine codeAny_builtinAt b.F.entry ?_
  unfold Builtin.«BaseException.__new__»
  refine PySem.wpAt_bind ?_
  show PySem.wpAt _ _ _ (stack >>= _) _ _ _
  refine PySem.wpAt_bind (PySem.wpAt_stack fun fp fb => PySem.wpAt_of_wpAny ?_)
  wp_walk
  refine PySem.wpAt_of_wpAny ?_
  rw [b.F.owner]
  repeat (first | with_reducible refine wpAny_madeHere_exc b.F.canon oC ?_ | with_reducible refine wpAny_loadPart_at oC ?_ | (with_reducible refine wpAny_isSubtype_exc oC ?_; first | rw [c1] | rw [c2] | rw [c3]) | wp_step)
  show R _ _
  rw [Heap.size_push]
  exact z
theorem kw_type {E : Value → Shared → Prop} {fI : Addr} {Q : PySem.Fin → Shared → Prop} (b : BErr B newId initId tl) (hT : ∀ X : String, bm.contains (.type X) = tl.contains (.type X)) (oC : hp.get? C = some (ClsO nm q C N bs bm hd sn sub ab col dd k0 k1 k2 k3 k5 newId))
    (li : PySem.W.Looks (model P w) hp (typeLookup (.ref C) "__init__") (some (.ref fI))) (lb : ∀ self, PySem.W.Looks (model P w) hp (bindSpecial (.ref fI) self) (.ref fI, [self]))
    (z : codeAny (model P w) A (.call (.ref fI) ⟨[.ref (hp.objs.size + 1)], kw⟩) (fun r s' => match r with | .ok (.ret v) => v = .none ∧ Q (.done (.ret (.ref (hp.objs.size + 1)))) s' | .ok _ => False | .error e => E e s') ⟨(hp.push (PySem.W.kdv_tup [])).push (excO C hp.objs.size), g, dr, tk, os⟩) :
    wpAny (model P w) A (Builtin.«type.__call__» ⟨[.ref C], kw⟩) Q E ⟨hp, g, dr, tk, os⟩ := by
  repeat (first | with_reducible refine wpAny_loadPart_at oC ?_ | with_reducible refine wpAny_madeBy_exc oC ?_ | wp_step)
  refine codeAny_call_builtin_code (Code.quiet_builtin _ b.F.quiet) (kw_check b hT oC (kw_new b hT oC (show wpAny _ _ _ _ _ _ from ?_)))
  have kp : ∀ x o, hp.get? x = some o → ((hp.push (PySem.W.kdv_tup [])).push (excO C hp.objs.size)).get? x = some o := fun x o e => Heap.get?_push_of_some _ (Heap.get?_push_of_some _ e)
  have oC2 := kp _ _ oC
  have oe : ((hp.push (PySem.W.kdv_tup [])).push (excO C hp.objs.size)).get? (hp.objs.size + 1) = some (excO C hp.objs.size) := by heap_get
  have cC : (Value.ref C :: bm).contains (.ref C) = true := by simp
  have li2 := li.keeps kp
  have lb2 := (lb (.ref (hp.objs.size + 1))).keeps kp
  unfold isInstance
  repeat (first | with_reducible refine wpAny_loadPart_at oe ?_ | (with_reducible refine wpAny_isSubtype_exc oC2 ?_; rw [cC]) | wp_step)
  refine (show wpAny _ _ (typeLookup (.ref C) _) _ _ _ from li2.at (wpAny_holding (wpAny_bind (lb2.at (wpAny_bind (wpAny_call (codeAny_mono z fun r s' y => ?_)))))))
  rcases r with e | (v | _ | _ | _) <;> (first | exact y | exact y.elim | skip)
  obtain ⟨rfl, y⟩ := y
  first
    | exact wpAny_pure (wpAny_pure y)
    | (wp_walk; exact y)
theorem kw_call {fI : Addr} (b : BErr B newId initId tl) (hT : ∀ X : String, bm.contains (.type X) = tl.contains (.type X)) (oC : hp.get? C = some (ClsO nm q C N bs bm hd sn sub ab col dd k0 k1 k2 k3 k5 newId))
    (li : PySem.W.Looks (model P w) hp (typeLookup (.ref C) "__init__") (some (.ref fI))) (lb : ∀ self, PySem.W.Looks (model P w) hp (bindSpecial (.ref fI) self) (.ref fI, [self]))
    (z : codeAny (model P w) (A.under (.builtin "type.__call__" ⟨[.ref C], kw⟩)) (.call (.ref fI) ⟨[.ref (hp.objs.size + 1)], kw⟩) (PySem.W.InitBack (hp.objs.size + 1) R) ⟨(hp.push (PySem.W.kdv_tup [])).push (excO C hp.objs.size), g, dr, tk, os⟩) : codeAny (model P w) A (.call (.ref C) ⟨[], kw⟩) R ⟨hp, g, dr, tk, os⟩ := by
  have e1 := tc_lookup
  have e2 := tc_bind (.ref C)
  have tyC : (⟨hp, g, dr, tk, os⟩ : Shared).TypeIs (.ref C) "type" := ⟨_, oC, rfl⟩
  refine codeAny_of_tree (show wpAny _ _ (callAny (.ref C) _) _ _ _ from ?_)
  repeat (any_goals (first | assumption | with_reducible refine wpAny_loadPart_at oC ?_ | wp_step))
  refine ⟨rfl, codeAny_call_builtin_at (Code.quiet_builtin _ (by decide +kernel)) entry_typeCall (wpAny_check_type_call_sub oC (kw_type b hT oC li lb (codeAny_mono z fun r s' y => ?_)))⟩
  rcases r with e | (v | _ | _ | _) <;> exact y
end
end Q
/-! own errors made as values: C(e, ..), C(f = e, ..), C(); their fields; isinstance -/
namespace Q
open PySem L2 PySem.Spec PyProof.Rows NdefX
section
variable {X : Cx} {B newId initId : String} {tl : List Value} {C : Addr}
def tMkV (C : Addr) (m : Nat) (sp : Sp) (gV : List V → List V) (t : TA) : TE := fun σ H Q => t σ H fun vs H1 => vs.length = m ∧ ∀ a, H1 a = none → sp (.ref a :: gV vs) (upd H1 a (exo a C none)) (fun v H2 => v = .non ∧ Q (.ref a) H2) fun _ _ _ => False
theorem pe_mkV {x : Str} {fI : Addr} {k m : Nat} {fd : FuncData} {ps : List Str} {sp : Sp} {e : Expr} {es : List Expr} {t : TA} {p pos : Pos} (T : ExB X.K C B newId initId tl) (hi : PySem.W.findIn X.K (.ref C) "__init__" = some (some (.ref fI))) (hf : PySem.W.isFn X.K (.ref fI) = true) (hm1 : m ≤ 1000)
    (F1 : FnOk X.prog X.w X.K X.mg X.base (L2.CX X.prog X.w) k fI fd ps sp) (hr : Room (k + 1) X.A) (hb : Binds X.K fd ps []) (hx : Passes (L2.CX X.prog X.w) X fun _ _ _ => False) (hg : Gl X x) (hm : X.mg x = some (.ref C)) (ha : PA X (e :: es) t)
    (hdb : (x == ("__debug__" : Str)) = false := by decide) (he : starEach (e :: es) X.env = (false, eval e X.env) :: starEach es X.env := by rfl) (hpl : (backTo pos (starEach es X.env)).any (·.1) = false := by rfl) : PE X (.Call (.Name x p) (e :: es) [] pos) (tMkV C m sp id t) := by
  refine ⟨fun pins s σ H Q I h => wpAny_Call_Name_kw (ld_glob I hg hm ?_ hdb)⟩
  refine PySem.W.callWith_K (h₀ := X.base) I.ok.mod.kin T.kp (thn (ha.run pos pins s σ H _ I h) fun us s1 ⟨vs, H1, I1, r1, hz, q1⟩ => ⟨I1.kIn, ?_⟩) he hpl
  rw [List.nil_append]
  obtain ⟨oI, hoI, hcI⟩ : ∃ oI, X.K.lookup fI = some oI ∧ oI.cls = .type "function" := let ⟨o, ho, hc⟩ := Option.map_eq_some_iff.mp (show (X.K.lookup fI).map (·.cls) = some (.type "function") from beq_iff_eq.mp hf); ⟨o, ho, hc⟩
  obtain ⟨nm, N', qn, bs, bm, hdct, sn, sub, ab, col, dd, k0, k1, k2, k3, k5, oC, hT⟩ := PySem.W.excInit_of I1.kIn T.ini
  obtain ⟨h0, g0, d0, t0, o0⟩ := s1
  have hq := q1 (h0.objs.size + 1) (I1.hok.fresh (Nat.le_succ _))
  have kp : ∀ b o, h0.get? b = some o → ((h0.push (PySem.W.kdv_tup us)).push (PySem.HandSPX.excO C h0.objs.size)).get? b = some o := fun b o z => Heap.get?_push_of_some _ (Heap.get?_push_of_some _ z)
  have I2 : L2.Inv X pins σ (upd H1 (h0.objs.size + 1) (exo (h0.objs.size + 1) C none)) ⟨(h0.push (PySem.W.kdv_tup us)).push (PySem.HandSPX.excO C h0.objs.size), g0, d0, t0, o0⟩ := I1.laid (t' := t0) (a := h0.objs.size + 1) (o := exo (h0.objs.size + 1) C none) kp (Nat.le_succ _) (exo_ok (by heap_get))
  have r2 : Vals (V.ref (h0.objs.size + 1) :: vs) (Value.ref (h0.objs.size + 1) :: us) := .cons rfl r1
  have b := hb _ (Value.ref (h0.objs.size + 1) :: us) I2.kIn (by rw [List.append_nil]; exact r2.length.symm.trans (F1.len _ _ _ _ hq))
  rw [List.append_nil] at b
  refine wpAny_call (PySem.HandSPX.call_own T.b.F hT oC (PySem.W.looks_findIn I1.kIn hi) (fun self => PySem.W.exc_bind (I1.kIn _ _ hoI) hcI self) (by rw [← r1.length, sizeLine_eq]; omega) (codeAny_mono (F1.run _ X.stack _ _ ⟨Value.ref (h0.objs.size + 1) :: us, []⟩ _ _ _ (fun _ _ _ => False) (hr.make C us []) (I2.env0.make C us []) b r2 hq) fun r s' z => ?_))
  cases r with
  | error er => exact hx pins σ _ _ er s' I2 z
  | ok fl =>
    cases fl with
    | ret u =>
      obtain ⟨v, H2, J, rv, ev, q2⟩ := I2.after z
      subst ev
      exact ⟨rv, V.ref (h0.objs.size + 1), H2, J, rfl, q2⟩
    | next => exact z.elim
    | brk => exact z.elim
    | cont => exact z.elim
theorem pe_mkVk {x : Str} {fI : Addr} {k : Nat} {fd : FuncData} {ps ks : List Str} {sp : Sp} {kws : List Keyword} {t : TA} {p pos : Pos} {g : List Value → List Value → List Value} {gV : List V → List V → List V} (T : ExB X.K C B newId initId tl) (hi : PySem.W.findIn X.K (.ref C) "__init__" = some (some (.ref fI))) (hf : PySem.W.isFn X.K (.ref fI) = true)
    (F1 : FnOk X.prog X.w X.K X.mg X.base (L2.CX X.prog X.w) k fI fd ps sp) (hr : Room (k + 1) X.A) (hb : KBn X.K fd ps 1 ks g gV) (hx : Passes (L2.CX X.prog X.w) X fun _ _ _ => False) (hg : Gl X x) (hm : X.mg x = some (.ref C)) (hk : PK X kws t) {g2 : List V → List V} (hg2 : ∀ a zs, gV [a] zs = a :: g2 zs)
    (hall : (backToKw pos (keywordEach kws X.env)).all (·.1.isSome) = true := by rfl) (hks : (backToKw pos (keywordEach kws X.env)).filterMap (·.1) = ks := by rfl) (hdb : (x == ("__debug__" : Str)) = false := by decide)
    (hpl : ((backTo pos (starEach [] X.env)).any (·.1) || (backToKw pos (keywordEach kws X.env)).any (·.1.isNone)) = false := by rfl) : PE X (.Call (.Name x p) [] kws pos) (tMkV C ks.length sp g2 t) := by
  refine ⟨fun pins s σ H Q I h => wpAny_Call_Name_kw (ld_glob I hg hm ?_ hdb)⟩
  refine PySem.W.callWith_KW0 (h₀ := X.base) I.ok.mod.kin T.kp hall (thn (hk.run pos pins s σ H _ I h) fun ws s1 ⟨zs, H1, I1, rz, l2, q1⟩ => ⟨I1.kIn, ?_⟩) hpl
  rw [hks, List.nil_append]
  obtain ⟨oI, hoI, hcI⟩ : ∃ oI, X.K.lookup fI = some oI ∧ oI.cls = .type "function" := let ⟨o, ho, hc⟩ := Option.map_eq_some_iff.mp (show (X.K.lookup fI).map (·.cls) = some (.type "function") from beq_iff_eq.mp hf); ⟨o, ho, hc⟩
  obtain ⟨nm, N', qn, bs, bm, hdct, sn, sub, ab, col, dd, k0, k1, k2, k3, k5, oC, hT⟩ := PySem.W.excInit_of I1.kIn T.ini
  obtain ⟨h0, g0, d0, t0, o0⟩ := s1
  have hq := q1 (h0.objs.size + 1) (I1.hok.fresh (Nat.le_succ _))
  have kp : ∀ b o, h0.get? b = some o → ((h0.push (PySem.W.kdv_tup [])).push (PySem.HandSPX.excO C h0.objs.size)).get? b = some o := fun b o z => Heap.get?_push_of_some _ (Heap.get?_push_of_some _ z)
  have I2 : L2.Inv X pins σ (upd H1 (h0.objs.size + 1) (exo (h0.objs.size + 1) C none)) ⟨(h0.push (PySem.W.kdv_tup [])).push (PySem.HandSPX.excO C h0.objs.size), g0, d0, t0, o0⟩ := I1.laid (t' := t0) (a := h0.objs.size + 1) (o := exo (h0.objs.size + 1) C none) kp (Nat.le_succ _) (exo_ok (by heap_get))
  have r2 : Vals (V.ref (h0.objs.size + 1) :: g2 zs) (g [Value.ref (h0.objs.size + 1)] ws) := by
    rw [← hg2]
    exact hb.rel (vs := [V.ref (h0.objs.size + 1)]) (.cons rfl .nil) rz
  have b := hb.to _ [Value.ref (h0.objs.size + 1)] ws I2.kIn rfl (rz.length.symm.trans l2)
  refine wpAny_call (kw_call T.b hT oC (PySem.W.looks_findIn I1.kIn hi) (fun self => PySem.W.exc_bind (I1.kIn _ _ hoI) hcI self) (codeAny_mono (F1.run _ X.stack _ _ ⟨[Value.ref (h0.objs.size + 1)], ks.zip ws⟩ _ _ _ (fun _ _ _ => False) (hr.make C [] (ks.zip ws)) (I2.env0.make C [] (ks.zip ws)) b r2 hq) fun r s' z => ?_))
  cases r with
  | error er => exact hx pins σ _ _ er s' I2 z
  | ok fl =>
    cases fl with
    | ret u =>
      obtain ⟨v, H2, J, rv, ev, q2⟩ := I2.after z
      subst ev
      exact ⟨rv, V.ref (h0.objs.size + 1), H2, J, rfl, q2⟩
    | next => exact z.elim
    | brk => exact z.elim
    | cont => exact z.elim
theorem pe_mkV0 {x : Str} {p pos : Pos} (b : BErr B newId initId tl) (q : PySem.W.excIn X.K C tl newId = true) (hm : X.mg x = some (.ref C)) (kC : PySem.W.keepIn X.K (.ref C) = true) (hg : Gl X x) (hdb : (x == ("__debug__" : Str)) = false := by decide) :
    PE X (.Call (.Name x p) [] [] pos) (fun _ H Q => ∀ a, H a = none → Q (.ref a) (upd H a (exo a C none))) := by
  refine ⟨fun pins s σ H Q I h => wpAny_Call_Name_kw (ld_glob I hg hm (PySem.W.callWith_K0 I.kIn kC ?_) hdb)⟩
  obtain ⟨bm, N, nm, qn, bs, hdct, sn, sub, ab, col, dd, k0, k1, k2, k3, k5, mN, oC, hN, hni, T⟩ := exc_obj I.kIn q
  refine wpAny_call_exc_subT b.F T oC hN hni (fun h' e hx => ?_) (show 0 ≤ sizeLine from Nat.zero_le _)
  obtain ⟨t, he, _, _⟩ := hx.there
  have na : H e = none := I.hok.gone hx.new
  obtain ⟨h0, g0, d0, t0, o0⟩ := s
  exact ⟨.ref e, _, I.laidN (t' := t0) hx.keeps hx.new na (exo_ok he), rfl, h e na⟩
/-- e.f where e is such an error -/
def tFdV (K : Frg) (f : Str) (te : TE) : TE := fun σ H Q => te σ H fun x H1 => ∃ (a d C : Addr) (fs : List (Str × V)) (v : V), x = .ref a ∧ XfC K C ∧ PySem.W.findIn K (.ref C) f = some none ∧ H1 a = some (exo a C (some d)) ∧ H1 d = some (exd d fs) ∧ fs.lookup f = some v ∧ Q v H1
theorem pe_fdV {e : Expr} {te : TE} {pos : Pos} {n : Str} (he : PE X e te) (hb : attributeBase e n X.env (eval e X.env) = eval e X.env := by rfl) : PE X (.Attribute e n pos) (tFdV X.K n te) := by
  refine ⟨fun pins s σ H Q I h => attr_of hb (thn (he.run pins s σ H _ I h) fun u s1 ⟨x, H1, I1, rx, a, d, C, fs, v, ex, T, hno, ea, ed, l, q⟩ => ?_)⟩
  subst ex
  obtain rfl : u = Value.ref a := rx
  obtain ⟨t1, ho⟩ := exo_at I1.hok ea
  obtain ⟨mA, hns, hr⟩ := exd_at I1.hok ed
  obtain ⟨od, hod, hl⟩ := lookIn_ns hns
  obtain ⟨u, hu, ru⟩ := RelO.some_of (v := v) (o := mA n) (by rw [← l]; exact hr n)
  exact HandSPX.exc_get I1.kIn (⟨ho, rfl, rfl, hod⟩ : PySem.W.InstAt s1.heap a (excA C t1 (some d)) C (some od)) T.ga T.gg T.exC (PySem.W.findObj_own T.hdC hno rfl (by rw [hl, hu])) (handed_of ru) ⟨v, H1, I1.tok _, ru, q⟩
def rIsV (K : Frg) : List V → Hp → VK → Prop := fun xs H Q => ∃ (a C : Addr) (od : Option Addr) (t : V) (u : Value) (b : Bool), xs = [.ref a, t] ∧ ClsV t u ∧ ExcC K C ∧ H a = some (exo a C od) ∧ (∀ d, od = some d → ∃ fs, H d = some (exd d fs)) ∧ PySem.W.kitOne K (.ref C) u = some b ∧ Q (.bl b) H
theorem call_isV : CallR X (.builtin "isinstance") (rIsV X.K) := by
  rintro pins s σ H xs us Q I r ⟨a, C, od, t, u, b, rfl, tu, T, ea, hd, e, q⟩
  cases r with
  | cons r1 r2 =>
    cases r2 with
    | cons r2 r3 =>
      cases r3
      cases r1
      obtain ⟨t1, ho⟩ := exo_at I.hok ea
      have eu : ∀ {w : Value}, RelV t w → w = u := fun {w} z => by
        cases tu <;> exact z
      rw [eu r2]
      have J : ∃ o', PySem.W.InstAt s.heap a (excA C t1 od) C o' := by
        cases od with
        | none => exact ⟨none, ho, rfl, rfl, trivial⟩
        | some d =>
          obtain ⟨fs, hx⟩ := hd d rfl
          obtain ⟨mA, ⟨o, _, _, ho2, _⟩, _⟩ := exd_at I.hok hx
          exact ⟨some o, ho, rfl, rfl, ho2⟩
      obtain ⟨o', J⟩ := J
      have hcl : (PySem.W.clsIn X.K C).isSome = true := let ⟨cd, hc, _⟩ := PySem.W.any_some T.hd; by rw [hc]; rfl
      exact PySem.W.kia_one (PySem.W.kitx_exc hcl T.hg T.hk T.hs T.ha T.hn T.ht T.hm) I.kIn J e (fun z => nomatch z) fun tk => ⟨.bl b, H, I.kept (t' := tk) fun _ _ z => z, rfl, q⟩
end
end Q
/-! errors as values over plain states -/
namespace Q
open PySem L2 PySem.Spec PyProof.Rows NdefX
section
variable {X : Cx} {B newId initId : String} {tl : List Value} {C : Addr}
/-- isinstance of such an error, of one class or of several -/
def rIsW (K : Frg) : List V → Hp → VK → Prop := fun xs H Q => ∃ (a C : Addr) (od : Option Addr) (tp : Addr) (cs : List V) (us : List Value) (b : Bool), xs = [.ref a, .ref tp] ∧ H tp = some (.tup cs) ∧ Paired ClsV cs us ∧ ExcC K C ∧ H a = some (exo a C od) ∧ (∀ d, od = some d → ∃ fs, H d = some (exd d fs)) ∧ PySem.W.kitAny K (.ref C) us = some b ∧ Q (.bl b) H
theorem call_isW : CallR X (.builtin "isinstance") (rIsW X.K) := by
  rintro pins s σ H xs us Q I r ⟨a, C, od, tp, cs, ws, b, rfl, hT, kc, T, ea, hd, e, q⟩
  obtain ⟨u1, u2, rfl, r1, r2⟩ := vals2 r
  obtain rfl : u2 = Value.ref tp := r2
  obtain rfl : u1 = Value.ref a := r1
  obtain ⟨t1, ho⟩ := exo_at I.hok ea
  have J : ∃ o', PySem.W.InstAt s.heap a (excA C t1 od) C o' := by
    cases od with
    | none => exact ⟨none, ho, rfl, rfl, trivial⟩
    | some d =>
      obtain ⟨fs, hx⟩ := hd d rfl
      obtain ⟨mA, ⟨o, _, _, ho2, _⟩, _⟩ := exd_at I.hok hx
      exact ⟨some o, ho, rfl, rfl, ho2⟩
  obtain ⟨o', J⟩ := J
  have hcl : (PySem.W.clsIn X.K C).isSome = true := let ⟨cd, hc, _⟩ := PySem.W.any_some T.hd; by rw [hc]; rfl
  obtain ⟨_, its, rv, o, h1, h2, n, h3⟩ : ObjOk X.prog X.w H s.heap tp (.tup cs) := I.hok tp _ hT
  obtain rfl := ClsV.all kc rv
  obtain ⟨oc, od2, dt, sl⟩ := o
  dsimp only at h2 h3
  subst h2 h3
  exact PySem.W.kia_tup (PySem.W.kitx_exc hcl T.hg T.hk T.hs T.ha T.hn T.ht T.hm) I.kIn J h1 e (fun z => nomatch z) fun tk => ⟨.bl b, H, I.tok tk, rfl, q⟩
def isvG (K : Frg) : Gc := fun ds J => match ds with
  | [.err C _, .tup cs] => ExcC K C ∧ opt (clssG cs) fun us => opt (PySem.W.kitAny K (.ref C) us) fun b => J (.d (.bl b))
  | [.err C _, c] => ExcC K C ∧ opt (clsG c) fun u => opt (PySem.W.kitOne K (.ref C) u) fun b => J (.d (.bl b))
  | _ => False
theorem err_at {c : C0} {W : Wd} {st : Ps} {σ : L2.St} {H : Hp} (P : Pre c W st σ H) {v : V} {fs : List (Str × D)} (t : Top W.φ W.F H v (.err C fs)) : ∃ a od, v = .ref a ∧ lockH W.L H a = some (exo a C od) ∧ ∀ d, od = some d → ∃ fs, lockH W.L H d = some (exd d fs) := by
  cases t with
  | err h1 h2 h3 => exact ⟨_, _, rfl, P.nol h1 rfl, fun d e => ⟨_, by cases e; exact P.nol h2 rfl⟩⟩
  | err0 h1 => exact ⟨_, _, rfl, P.nol h1 rfl, fun d e => nomatch e⟩
theorem g_isv (K : Frg) : CallG (fun xs H Q => rIsV K xs H Q ∨ rIsW K xs H Q) (isvG K) := fun c W st σ H vs ds Q J P t g k => by
  unfold isvG at g
  split at g
  · obtain ⟨v, u, rfl, t1, t2⟩ := tops_2 t
    obtain ⟨T, g⟩ := g
    obtain ⟨us, e1, g⟩ := opt_ex g
    obtain ⟨b, e2, g⟩ := opt_ex g
    obtain ⟨a, od, rfl, ha, hd⟩ := err_at P t1
    cases t2 with
    | tup h2 r2 => exact .inr ⟨a, _, od, _, _, us, b, rfl, P.nol h2 rfl, clss_ok r2 e1, T, ha, hd, e2, (k _ g).d P (.bl _)⟩
  · obtain ⟨v, u, rfl, t1, t2⟩ := tops_2 t
    obtain ⟨T, g⟩ := g
    obtain ⟨us, e1, g⟩ := opt_ex g
    obtain ⟨b, e2, g⟩ := opt_ex g
    obtain ⟨a, od, rfl, ha, hd⟩ := err_at P t1
    exact .inl ⟨a, _, od, _, us, b, rfl, cls_ok t2 e1, T, ha, hd, e2, (k _ g).d P (.bl _)⟩
  · exact g.elim
theorem cIsv (K : Frg) (h : X.K = K := by rfl) : CallR X (.builtin "isinstance") (fun xs H Q => rIsV K xs H Q ∨ rIsW K xs H Q) := by
  subst h
  exact call_isV.or call_isW
/-- e.f -/
def fdvG (K : Frg) (f : Str) : List Cell → D → (O → Prop) → Prop := fun _ d J => match d with
  | .err C fs => XfC K C ∧ PySem.W.findIn K (.ref C) f = some none ∧ opt (fs.lookup f) fun x => J (.d x)
  | _ => False
def rFdV (K : Frg) (f : Str) : V → Hp → VK → Prop := fun x H1 Q => ∃ (a d C : Addr) (fs : List (Str × V)) (v : V), x = .ref a ∧ XfC K C ∧ PySem.W.findIn K (.ref C) f = some none ∧ H1 a = some (exo a C (some d)) ∧ H1 d = some (exd d fs) ∧ fs.lookup f = some v ∧ Q v H1
theorem g_fdv (K : Frg) (f : Str) : UnG (rFdV K f) (fdvG K f) := fun c W st σ H v d Q J P t g k => by
  unfold fdvG at g
  split at g
  · obtain ⟨T, hno, g⟩ := g
    obtain ⟨x, e, g⟩ := opt_ex g
    cases t with
    | err h1 h2 h3 =>
      obtain ⟨y, e1, r2⟩ := h3.lookup e
      exact ⟨_, _, _, _, y, rfl, T, hno, P.nol h1 rfl, P.nol h2 rfl, e1, (k _ g).d P r2⟩
    | err0 h1 => cases e
  · exact g.elim
theorem kFdV (K : Frg) {e : Expr} {te : TE} {pos : Pos} {n : Str} (he : PE X e te) (h : X.K = K := by rfl) (hb : attributeBase e n X.env (eval e X.env) = eval e X.env := by rfl) : PE X (.Attribute e n pos) (fun σ H Q => te σ H fun x H1 => rFdV K n x H1 Q) := by
  subst h
  exact pe_fdV he hb
/-- C(e, ..): an error as a value -/
def xMkE (C : Addr) (fl : List Str) (m : Nat) (gD : List D → List D) (ga : Ax) : Ox := fun E st Q => ga E st fun rs st1 => opt (frzs st1 rs) fun q => q.1.length = m ∧ (gD q.1).length = fl.length ∧ Q (.d (.err C (fl.zip (gD q.1)).reverse)) q.2
def GOk (gV : List V → List V) (gD : List D → List D) : Prop := ∀ {φ F H} {vs : List V} {ds : List D}, RepL φ F H vs ds → RepL φ F H (gV vs) (gD ds)
theorem RepL.app {φ F H} : ∀ {vs ws : List V} {ds es : List D}, RepL φ F H vs ds → RepL φ F H ws es → RepL φ F H (vs ++ ws) (ds ++ es)
  | _, _, _, _, .nil, h => h
  | _, _, _, _, .cons a t, h => .cons a (t.app h)
theorem gok_rev : GOk List.reverse List.reverse := fun {φ F H vs ds} r => by
  induction ds generalizing vs with
  | nil => cases r; exact .nil
  | cons d ds ih =>
    cases r with
    | cons h1 h2 =>
      rw [List.reverse_cons, List.reverse_cons]
      exact (ih h2).app (.cons h1 .nil)
theorem gok_id : GOk id id := fun r => r
theorem mkE_at {c : C0} {W : Wd} {st : Ps} {σ : L2.St} {H : Hp} {fl : List Str} {vs : List V} {ds : List D} {Q : VK} (P : Pre c W st σ H) (r : RepL W.φ W.F H vs ds) (hn : ds.length = fl.length) (k : ∀ a, Res c W st σ H (.d (.err C (fl.zip ds).reverse)) fun v H' => v = .ref a → Q v H') :
    ∀ a, lockH W.L H a = none → spE C fl (.ref a :: vs) (upd (lockH W.L H) a (exo a C none)) (fun v H2 => v = .non ∧ Q (.ref a) H2) fun _ _ _ => False := fun a na => by
  refine ⟨a, vs, rfl, r.length.trans hn, upd_same, fun dx nx ne => ⟨rfl, ?_⟩⟩
  have e : upd (upd (upd (lockH W.L H) a (exo a C none)) dx (exd dx (fl.zip vs).reverse)) a (exo a C (some dx)) = upd (upd (lockH W.L H) dx (exd dx (fl.zip vs).reverse)) a (exo a C (some dx)) := by
    funext b
    by_cases h1 : b = a
    · rw [h1, upd_same, upd_same]
    · rw [upd_ne h1, upd_ne h1]
      by_cases h2 : b = dx
      · rw [h2, upd_same, upd_same]
      · rw [upd_ne h2, upd_ne h2, upd_ne h1]
  rw [e]
  have nx2 : H dx = none := lock_none ((upd_ne ne).symm.trans nx)
  have na2 : H a = none := lock_none na
  obtain ⟨s3, P3⟩ := P.alloc (o := exd dx (fl.zip vs).reverse) nx2
  have na3 : upd H dx (exd dx (fl.zip vs).reverse) a = none := (upd_ne (Ne.symm ne)).trans na2
  obtain ⟨s4, P4⟩ := P3.alloc (o := exo a C (some dx)) na3
  have rp : Rp ((W.add dx).add a) (upd (upd H dx (exd dx (fl.zip vs).reverse)) a (exo a C (some dx))) (.ref a) (.err C (fl.zip ds).reverse) := .err (.inr rfl) upd_same (.inl (.inr rfl)) ((upd_ne ne).trans upd_same) ((repF_zip r).fut ((P.fut s3).trans (P3.fut s4)))
  have q := k a (.ref a) _ _ (s3.trans s4) P4 rp rfl
  have n3 : W.L.lookup a = none := P3.lnone na3
  rw [lock_upd (P.lnone nx2), lock_upd n3]
  exact q
theorem po_mkE {x : Str} {fI : Addr} {k : Nat} {fd : FuncData} {ps fl : List Str} {e : Expr} {es : List Expr} {ga : Ax} {p pos : Pos} (T : ExB X.K C B newId initId tl) (hi : PySem.W.findIn X.K (.ref C) "__init__" = some (some (.ref fI))) (hf : PySem.W.isFn X.K (.ref fI) = true)
    (F1 : FnOk X.prog X.w X.K X.mg X.base (L2.CX X.prog X.w) k fI fd ps (spE C fl)) (hr : Room (k + 1) X.A) (hb : Binds X.K fd ps []) (hg : Gl X x) (hm : X.mg x = some (.ref C)) (ha : PXA X (e :: es) ga) (hfl : fl.length ≤ 1000 := by decide)
    (hdb : (x == ("__debug__" : Str)) = false := by decide) (he : starEach (e :: es) X.env = (false, eval e X.env) :: starEach es X.env := by rfl) (hpl : (backTo pos (starEach es X.env)).any (·.1) = false := by rfl) : PO X (.Call (.Name x p) (e :: es) [] pos) (xMkE C fl fl.length id ga) := fun c l =>
  peOf (pe_mkV T hi hf hfl F1 hr hb passL hg hm (ha c l) hdb he hpl) fun σ H Q ⟨W, st, H1, Q0, hH, P, q, kk⟩ => ⟨W, st, H1, _, hH, P, q, fun rs st1 vs W1 H2 q1 s1 P1 rvs => by
    obtain ⟨y, e1, hn, hn2, q1⟩ := opt_ex q1
    obtain ⟨W2, s2, P2, r2, eL⟩ := frzs_ok P1 e1 rvs
    rw [← eL]
    exact ⟨r2.length.trans hn, mkE_at P2 r2 hn2 fun a v W' H' s3 P3 ov _ => kk _ _ _ _ _ q1 ((s1.trans s2).trans s3) P3 ov⟩⟩
theorem po_mkEk {x : Str} {fI : Addr} {k : Nat} {fd : FuncData} {ps fl ks : List Str} {kws : List Keyword} {ga : Ax} {p pos : Pos} {g : List Value → List Value → List Value} {gV : List V → List V → List V} {g2 : List V → List V} {gD : List D → List D} (T : ExB X.K C B newId initId tl) (hi : PySem.W.findIn X.K (.ref C) "__init__" = some (some (.ref fI))) (hf : PySem.W.isFn X.K (.ref fI) = true)
    (F1 : FnOk X.prog X.w X.K X.mg X.base (L2.CX X.prog X.w) k fI fd ps (spE C fl)) (hr : Room (k + 1) X.A) (hb : KBn X.K fd ps 1 ks g gV) (hg : Gl X x) (hm : X.mg x = some (.ref C)) (ha : PXK X kws ga) (hg2 : ∀ a zs, gV [a] zs = a :: g2 zs) (hG : GOk g2 gD) {m : Nat} (hm2 : ks.length = m := by rfl)
    (hall : (backToKw pos (keywordEach kws X.env)).all (·.1.isSome) = true := by rfl) (hks : (backToKw pos (keywordEach kws X.env)).filterMap (·.1) = ks := by rfl) (hdb : (x == ("__debug__" : Str)) = false := by decide)
    (hpl : ((backTo pos (starEach [] X.env)).any (·.1) || (backToKw pos (keywordEach kws X.env)).any (·.1.isNone)) = false := by rfl) : PO X (.Call (.Name x p) [] kws pos) (xMkE C fl m gD ga) := fun c l =>
  by subst hm2; exact peOf (pe_mkVk T hi hf F1 hr hb passL hg hm (ha c l) hg2 hall hks hdb hpl) fun σ H Q ⟨W, st, H1, Q0, hH, P, q, kk⟩ => ⟨W, st, H1, _, hH, P, q, fun rs st1 vs W1 H2 q1 s1 P1 rvs => by
    obtain ⟨y, e1, hn, hn2, q1⟩ := opt_ex q1
    obtain ⟨W2, s2, P2, r2, eL⟩ := frzs_ok P1 e1 rvs
    rw [← eL]
    exact ⟨r2.length.trans hn, mkE_at P2 (hG r2) hn2 fun a v W' H' s3 P3 ov _ => kk _ _ _ _ _ q1 ((s1.trans s2).trans s3) P3 ov⟩⟩
/-- C() -/
def xMkE0 (C : Addr) : Ox := fun _ st Q => Q (.d (.err C [])) st
theorem po_mkE0 {x : Str} {p pos : Pos} (b : BErr B newId initId tl) (q : PySem.W.excIn X.K C tl newId = true) (hm : X.mg x = some (.ref C)) (kC : PySem.W.keepIn X.K (.ref C) = true) (hg : Gl X x) (hdb : (x == ("__debug__" : Str)) = false := by decide) : PO X (.Call (.Name x p) [] [] pos) (xMkE0 C) := fun c l =>
  peOf (pe_mkV0 b q hm kC hg hdb) fun σ H Q ⟨W, st, H1, Q0, hH, P, q, kk⟩ => by
    subst hH
    intro a na
    obtain ⟨s3, P3⟩ := P.alloc (o := exo a C none) (lock_none na)
    rw [lock_upd (P.lnone (lock_none na))]
    have rp : Rp (W.add a) (upd H1 a (exo a C none)) (.ref a) (.err C []) := .err0 (.inr rfl) upd_same
    exact kk _ _ (.ref a) (W.add a) _ q s3 P3 rp
end
end Q
/-! xs.count(True); repr of a dict; an error that bears a list which grows behind; keywords of an error's constructor in the other order -/
namespace Q
open PySem L2 PySem.Spec PyProof.Rows NdefX
section
variable {X : Cx}
/-! ### xs.count(True) -/
def isTr (v : Value) : Bool := match v with
  | .bool b => b == true
  | _ => false
theorem tr_mem : ∀ {bs : List Bool} {us : List Value}, Vals (bs.map V.bl) us → (∀ y ∈ us, ∃ b, y = .bool b) ∧ us.countP isTr = bs.count true
  | [], _, .nil => ⟨fun y h => absurd h List.not_mem_nil, rfl⟩
  | b :: bs, _, .cons h t => by
    obtain ⟨h1, h2⟩ := tr_mem (bs := bs) t
    cases h
    refine ⟨fun y hy => (List.mem_cons.mp hy).elim (fun e => ⟨b, e⟩) (h1 y), ?_⟩
    rw [List.countP_cons, h2, List.count_cons]
    rfl
def rCntB (K : Frg) : V → List V → Hp → VK → Prop := fun x xs H Q => ∃ (p : Addr) (bs : List Bool), x = .ref p ∧ xs = [.bl true] ∧ SqL K H p (bs.map V.bl) ∧ Q (.int (bs.count true : Nat)) H
theorem mt_cntB : MtR X "list.count" (rCntB X.K) := by
  rintro pins s σ H x xs v us Q I rx rxs ⟨p, bs, rfl, rfl, hs, q⟩
  cases rx
  obtain ⟨u, rfl, ru⟩ := rxs.one
  cases ru
  obtain ⟨its, rv, ⟨⟨cls, dd, data, sl⟩, n, ho, hc, hdn, hd⟩, hlen⟩ := I.list hs
  dsimp only at hc hd
  subst hc hd
  obtain ⟨h1, h2⟩ := tr_mem rv
  refine call_meets PySem.F.slot_list_count ⟨_, ho, rfl⟩ PySem.F.entry_list_count (PySem.F.args_list_count_2 _ _) (SeqAt.list_countAt p its.toArray n dd sl (.bool true) isTr) ⟨ho, fun y hy => ?_, ?_⟩
  · obtain ⟨b, rfl⟩ := h1 y (by simpa using hy)
    exact SeqAt.EqAt.bool_bool b true
  · have e : its.toArray.toList.countP isTr = bs.count true := h2
    refine ⟨.int (bs.count true : Nat), H, I.tok _, ⟨s.toks, ?_⟩, q⟩
    rw [e]
def boolsD : List D → Option (List Bool)
  | [] => some []
  | .bl b :: ds => (boolsD ds).map (b :: ·)
  | _ => none
theorem bools_ok {φ F H} : ∀ {ds : List D} {vs : List V} {bs : List Bool}, RepL φ F H vs ds → boolsD ds = some bs → vs = bs.map V.bl
  | [], _, _, h, e => by
    cases h
    cases e
    rfl
  | d :: ds, _, _, h, e => by
    cases h with
    | cons h1 h2 =>
      cases h1 with
      | bl b =>
        obtain ⟨cs, e1, rfl⟩ := Option.map_eq_some_iff.mp (show (boolsD ds).map (b :: ·) = some _ from e)
        rw [bools_ok h2 e1]
        rfl
      | _ => cases e
def xCnt (f : Ex) : Ox := fun E st Q => f E st fun r st1 => ∃ xs bs, look st1 r = some (.lst xs) ∧ boolsD xs = some bs ∧ Q (.d (.int ((bs.count true : Nat) : Int))) st1
theorem po_cnt {o ee c : Expr} {f : Ex} (h : ∀ {te : TE} {t : TA}, PE X o te → PA X [c] t → PE X ee (tBM X.K "list" (rCntB X.K) te t)) (ho : PX X o f) (hc : PE X c (tC (.bl true))) (hca : ∀ {t : TE}, PE X c t → PA X [c] (tCons t tNil)) : PO X ee (xCnt f) := fun k l =>
  peOf (h (ho k l) (hca hc)) fun σ H Q ⟨W, st, H1, Q0, hH, P, q, kk⟩ => ⟨W, st, H1, _, hH, P, q, fun r st1 v W1 H2 q1 s1 P1 rv => by
    obtain ⟨xs, bs, e1, e2, q1⟩ := q1
    have t := P1.top rv e1
    cases t with
    | lst h1 h2 =>
      rw [bools_ok h2 e2] at h1
      exact ⟨.inl ⟨rfl, _, SqL.of (P1.nol h1 rfl)⟩, _, bs, rfl, rfl, SqL.of (P1.nol h1 rfl), kk _ _ _ _ _ q1 s1 P1 (show Rp _ _ _ _ from .int _)⟩⟩
end
/-! ### repr of a dict, too -/
def reprD : Gc := fun ds J => match ds with
  | [.dK xs] => opt (toR (.dK xs)) fun p => showsQ p J
  | ds => reprA ds J
theorem g_reprD : CallG (fun xs H Q => rRepr0 xs H Q ∨ rReprR xs H Q) reprD := fun c W st σ H vs ds Q J P t g k => by
  unfold reprD at g
  split at g
  · obtain ⟨v, rfl, t1⟩ := tops_1 t
    obtain ⟨p, e, h1, h2, h3, h4⟩ := opt_ex g
    rw [toR] at e
    obtain ⟨ps, e1, rfl⟩ := Option.map_eq_some_iff.mp e
    cases t1 with
    | dK l1 l2 => exact .inr ⟨_, _, rfl, .dK (lock_rd l1) (P.drk l2 e1), h1, h2, h3, (k _ h4).d P (.str _)⟩
  · exact g_reprA c W st σ H vs _ Q J P t g k
/-! ### e = C(xs); xs.append(n) -/
def sLate (i j : Nat) (C : Addr) (f : Str) (n : Int) : Sx := fun _ K st => match st.ρ[i]? with
  | some (.lst xs) => i ≠ j ∧ xs.length < sizeLine ∧ K.nx { st with ρ := (st.ρ.set i (.d (.lst (xs ++ [.int n])))).set j (.d (.err C [(f, .lst (xs ++ [.int n]))])) }
  | _ => False
section
variable {X : Cx} {C : Addr}
theorem pxb_late {i j : Nat} {f : Str} {n : Int} {ee : Expr} {s1 s2 : Stmt} {rest : List Stmt} {sg : Sx} (h1 : ∀ {t : TE}, PE X ee t → PS X s1 (tAsg t (gName j))) (hm : PE X ee (tMkV C 1 (spE C [f]) id (tCons (tVar i) tNil)))
    (h2 : PS X s2 (tDrop (tBM X.K "list" rAppend (tVar i) (tCons (tC (.int n)) tNil)))) (h3 : PXB X rest sg) : PXB X (s1 :: s2 :: rest) (sSeq (sLate i j C f n) sg) := fun c l => pssOf (pss_cons (h1 hm) (pss_cons h2 (h3 c l))) fun D σ H ⟨W, st, H1, K, hH, P, ek, q⟩ => by
  subst hH
  unfold sSeq sLate at q
  split at q
  · rename_i xs hx
    obtain ⟨hij, hl, q⟩ := q
    obtain ⟨a, vs, e1, e2, e3⟩ := P.own_lst hx
    refine ⟨.ref a, e1, rfl, fun b nb => ⟨b, [.ref a], rfl, rfl, upd_same, fun dx nx ne => ⟨rfl, ?_⟩⟩⟩
    have nx2 : H1 dx = none := lock_none ((upd_ne ne).symm.trans nx)
    have nb2 : H1 b = none := lock_none nb
    have e : upd (upd (upd (lockH W.L H1) b (exo b C none)) dx (exd dx (([f].zip [V.ref a]).reverse))) b (exo b C (some dx)) = upd (upd (lockH W.L H1) dx (exd dx [(f, V.ref a)])) b (exo b C (some dx)) := by
      funext x
      by_cases h1 : x = b
      · rw [h1, upd_same, upd_same]
      · rw [upd_ne h1, upd_ne h1]
        by_cases h2 : x = dx
        · rw [h2, upd_same, upd_same]; rfl
        · rw [upd_ne h2, upd_ne h2, upd_ne h1]
    rw [e]
    obtain ⟨t1, P1⟩ := P.alloc (o := exd dx [(f, V.ref a)]) nx2
    have nb3 : upd H1 dx (exd dx [(f, V.ref a)]) b = none := (upd_ne (Ne.symm ne)).trans nb2
    obtain ⟨t2, P2⟩ := P1.alloc (o := exo b C (some dx)) nb3
    have adx : a ≠ dx := ne_of_none e2 nx2
    have ab : a ≠ b := ne_of_none e2 nb2
    have e4 : upd (upd H1 dx (exd dx [(f, V.ref a)])) b (exo b C (some dx)) a = some (.lst vs) := (upd_ne ab).trans ((upd_ne adx).trans e2)
    have so : slotOwns st.ρ σ i a := ⟨_, hx, rfl, e1⟩
    have M := P2.mutate (u' := .lst (vs ++ [.int n])) (o' := .lst (xs ++ [.int n])) hx rfl e1 rfl fun fu => ⟨_, upd_same, (((e3.fut (P.fut t1)).fut (P1.fut t2)).fut fu).snoc (.int n)⟩
    have hsl : ({ st with ρ := st.ρ.set i (.lst (xs ++ [.int n])) } : Ps).ρ[i]? = some (.lst (xs ++ [.int n])) := by
      show (st.ρ.set i _)[i]? = _
      rw [List.getElem?_set_self (List.getElem?_eq_some_iff.mp hx).1]
    obtain ⟨t3, P3, r3⟩ := M.freeze hsl rfl e1
    have nW : W.L.lookup dx = none := P.lnone nx2
    have nW2 : W.L.lookup b = none := P1.lnone nb3
    have nW3 : W.L.lookup a = none := P.lown (P.sown i a so).1 (P.sown i a so).2.1
    have rp : Rp (((W.add dx).add b).add a) (upd (upd (upd H1 dx (exd dx [(f, V.ref a)])) b (exo b C (some dx))) a (.lst (vs ++ [.int n]))) (.ref b) (.err C [(f, .lst (xs ++ [.int n]))]) :=
      .err (.inl (.inr rfl)) ((upd_ne (Ne.symm ab)).trans upd_same) (.inl (.inl (.inr rfl))) ((upd_ne (Ne.symm adx)).trans ((upd_ne ne).trans upd_same)) (.cons r3 .nil)
    have P5 := P3.set j rp
    refine ⟨.ref a, (List.getElem?_set_ne (Ne.symm hij)).trans e1, .inl ⟨rfl, vs, SqL.of ?_⟩, a, vs, .int n, rfl, rfl, ?_, by rw [e3.length]; exact hl, ?_⟩
    · exact (upd_ne ab).trans ((upd_ne adx).trans (P.nol e2 rfl))
    · exact (upd_ne ab).trans ((upd_ne adx).trans (P.nol e2 rfl))
    · rw [lock_upd nW, lock_upd nW2, lock_upd nW3]
      refine ⟨((W.add dx).add b).add a, _, _, K, rfl, P5, ek.aft ((P.aft (t1.trans t2)).trans ((⟨fut_mut _ (P2.sown i a so).1 e4 rfl, [], rfl⟩ : Aft _ _ _ _).trans (M.aft t3))), ?_⟩
      have es : (st.ρ.set i (.lst (xs ++ [.int n]))).set i (.d (.lst (xs ++ [.int n]))) = st.ρ.set i (.d (.lst (xs ++ [.int n]))) := List.set_set ..
      show sg c.E K { st with ρ := ((st.ρ.set i (.lst (xs ++ [.int n]))).set i (.d (.lst (xs ++ [.int n])))).set j _ }
      rw [es]
      exact q
  · exact q.elim
end
theorem FunS.kbnR {K : Frg} {x qual : Str} {st : Stmt} {f D0 cc c : Addr} {fd : FuncData} {ps ks : List Str} {n : Nat} (F : FunS K x qual st f fd cc c D0)
    (h : ∀ (kV doc pm ct : Value) (an : Option Addr) (us ws : List Value), us.length = n → ws.length = ks.length → bindArgs (PySem.W.fnX x qual (defArgs st) (defBody st) (defScope st) [(("__class__" : Str), cc)] .none kV doc pm an (.ref c) ct) ⟨us, ks.zip ws⟩ = pure (ps.zip (us ++ ws.reverse))) :
    KBn K fd ps n ks (fun us ws => us ++ ws.reverse) fun vs zs => vs ++ zs.reverse := by
  obtain ⟨oc, kV, doc, pm, ct, cl, od, an, cld, osl, csl, rfl, at_, cell⟩ := F.ex
  exact ⟨fun s us ws _ h1 h2 => .of_eq (h kV doc pm ct an us ws h1 h2), fun a b => vals_app a (vals_rev b)⟩
end Q
namespace Q
open PySem L2 PySem.Spec PyProof.Rows NdefX LamX
theorem sc_InvalidTable___init__ : NScope N_InvalidTable___init__ p_InvalidTable___init__ ["__class__"] (defScope s_InvalidTable___init__) := nscope_by (by decide +kernel)
theorem sc_InvalidRow___init__ : NScope N_InvalidRow___init__ p_InvalidRow___init__ ["__class__"] (defScope s_InvalidRow___init__) := nscope_by (by decide +kernel)
theorem sc_InvalidRule___init__ : NScope N_InvalidRule___init__ p_InvalidRule___init__ ["__class__"] (defScope s_InvalidRule___init__) := nscope_by (by decide +kernel)
theorem sc_Misfit___init__ : NScope N_Misfit___init__ p_Misfit___init__ ["__class__"] (defScope s_Misfit___init__) := nscope_by (by decide +kernel)
theorem sc_Circle___init__ : NScope N_Circle___init__ p_Circle___init__ ["__class__"] (defScope s_Circle___init__) := nscope_by (by decide +kernel)
theorem sc_InvalidFact___init__ : NScope N_InvalidFact___init__ p_InvalidFact___init__ ["__class__"] (defScope s_InvalidFact___init__) := nscope_by (by decide +kernel)
theorem sc_InvalidChange___init__ : NScope N_InvalidChange___init__ p_InvalidChange___init__ ["__class__"] (defScope s_InvalidChange___init__) := nscope_by (by decide +kernel)
theorem sc_InvalidAnswer___init__ : NScope N_InvalidAnswer___init__ p_InvalidAnswer___init__ ["__class__"] (defScope s_InvalidAnswer___init__) := nscope_by (by decide +kernel)
theorem sc_InvalidTemplate___init__ : NScope N_InvalidTemplate___init__ p_InvalidTemplate___init__ ["__class__"] (defScope s_InvalidTemplate___init__) := nscope_by (by decide +kernel)
theorem sc_InvalidNames___init__ : NScope N_InvalidNames___init__ p_InvalidNames___init__ ["__class__"] (defScope s_InvalidNames___init__) := nscope_by (by decide +kernel)
theorem sc_InvalidLimit___init__ : NScope N_InvalidLimit___init__ p_InvalidLimit___init__ ["__class__"] (defScope s_InvalidLimit___init__) := nscope_by (by decide +kernel)
theorem sc_Unreadable___init__ : NScope N_Unreadable___init__ p_Unreadable___init__ ["__class__"] (defScope s_Unreadable___init__) := nscope_by (by decide +kernel)
theorem sc_UnknownTable___init__ : NScope N_UnknownTable___init__ p_UnknownTable___init__ ["__class__"] (defScope s_UnknownTable___init__) := nscope_by (by decide +kernel)
theorem sc_UnknownColumn___init__ : NScope N_UnknownColumn___init__ p_UnknownColumn___init__ ["__class__"] (defScope s_UnknownColumn___init__) := nscope_by (by decide +kernel)
theorem sc_OutOfRange___init__ : NScope N_OutOfRange___init__ p_OutOfRange___init__ ["__class__"] (defScope s_OutOfRange___init__) := nscope_by (by decide +kernel)
theorem sc_NoAnswer___init__ : NScope N_NoAnswer___init__ p_NoAnswer___init__ ["__class__"] (defScope s_NoAnswer___init__) := nscope_by (by decide +kernel)
theorem sc_NoCase___init__ : NScope N_NoCase___init__ p_NoCase___init__ ["__class__"] (defScope s_NoCase___init__) := nscope_by (by decide +kernel)
theorem sc_NoBranch___init__ : NScope N_NoBranch___init__ p_NoBranch___init__ ["__class__"] (defScope s_NoBranch___init__) := nscope_by (by decide +kernel)
theorem sc_TooMany___init__ : NScope N_TooMany___init__ p_TooMany___init__ ["__class__"] (defScope s_TooMany___init__) := nscope_by (by decide +kernel)
theorem sc_TooDear___init__ : NScope N_TooDear___init__ p_TooDear___init__ ["__class__"] (defScope s_TooDear___init__) := nscope_by (by decide +kernel)
theorem sc_Broken___init__ : NScope N_Broken___init__ p_Broken___init__ ["__class__"] (defScope s_Broken___init__) := nscope_by (by decide +kernel)
theorem sc_Unfit___init__ : NScope N_Unfit___init__ p_Unfit___init__ ["__class__"] (defScope s_Unfit___init__) := nscope_by (by decide +kernel)
theorem sc_Refused___init__ : NScope N_Refused___init__ p_Refused___init__ ["__class__"] (defScope s_Refused___init__) := nscope_by (by decide +kernel)
theorem sc_LookFailed___init__ : NScope N_LookFailed___init__ p_LookFailed___init__ ["__class__"] (defScope s_LookFailed___init__) := nscope_by (by decide +kernel)
theorem sc_NoLook___init__ : NScope N_NoLook___init__ p_NoLook___init__ ["__class__"] (defScope s_NoLook___init__) := nscope_by (by decide +kernel)
theorem sc__law_pen : FnScope N__law_pen p__law_pen (defScope s__law_pen) := ⟨rfl, rfl, rfl, by decide +kernel, rfl, by decide +kernel, by decide +kernel⟩
theorem sc__law_draw : FnScope N__law_draw p__law_draw (defScope s__law_draw) := ⟨rfl, rfl, rfl, by decide +kernel, rfl, by decide +kernel, by decide +kernel⟩
theorem sc__law_pick : FnScope N__law_pick p__law_pick (defScope s__law_pick) := ⟨rfl, rfl, rfl, by decide +kernel, rfl, by decide +kernel, by decide +kernel⟩
theorem sc__law_any_value : FnScope N__law_any_value p__law_any_value (defScope s__law_any_value) := ⟨rfl, rfl, rfl, by decide +kernel, rfl, by decide +kernel, by decide +kernel⟩
theorem sc__law_some_errors : FnScope N__law_some_errors p__law_some_errors (defScope s__law_some_errors) := ⟨rfl, rfl, rfl, by decide +kernel, rfl, by decide +kernel, by decide +kernel⟩
theorem sc__law_other_errors : FnScope N__law_other_errors p__law_other_errors (defScope s__law_other_errors) := ⟨rfl, rfl, rfl, by decide +kernel, rfl, by decide +kernel, by decide +kernel⟩
theorem sc__law_classes : FnScope N__law_classes p__law_classes (defScope s__law_classes) := ⟨rfl, rfl, rfl, by decide +kernel, rfl, by decide +kernel, by decide +kernel⟩
theorem sc__law_sorts : FnScope N__law_sorts p__law_sorts (defScope s__law_sorts) := ⟨rfl, rfl, rfl, by decide +kernel, rfl, by decide +kernel, by decide +kernel⟩
theorem sc_law : FnScope N_law p_law (defScope s_law) := ⟨rfl, rfl, rfl, by decide +kernel, rfl, by decide +kernel, by decide +kernel⟩
end Q
namespace Q
open PySem L2 PySem.Spec PyProof.Rows NdefX LamX
structure Cs where
  InvalidTable : Addr
  InvalidSchema : Addr
  InvalidRow : Addr
  OtherSchema : Addr
  InvalidRule : Addr
  Misfit : Addr
  Circle : Addr
  InvalidFact : Addr
  InvalidChange : Addr
  InvalidAnswer : Addr
  InvalidTemplate : Addr
  InvalidNames : Addr
  InvalidPair : Addr
  InvalidLimit : Addr
  Unreadable : Addr
  NoLine : Addr
  UnknownTable : Addr
  UnknownColumn : Addr
  OutOfRange : Addr
  NoAnswer : Addr
  NoCase : Addr
  NoBranch : Addr
  Nothing : Addr
  TooMany : Addr
  TooDear : Addr
  Broken : Addr
  Unfit : Addr
  NeverFits : Addr
  Refused : Addr
  LookFailed : Addr
  NoLook : Addr
  zz : Addr
def errL (cs : Cs) : List Addr := [cs.InvalidTable, cs.InvalidSchema, cs.InvalidRow, cs.OtherSchema, cs.InvalidRule, cs.Misfit, cs.Circle, cs.InvalidFact, cs.InvalidChange, cs.InvalidAnswer, cs.InvalidTemplate, cs.InvalidNames, cs.InvalidPair, cs.InvalidLimit, cs.Unreadable, cs.NoLine, cs.UnknownTable, cs.UnknownColumn, cs.OutOfRange, cs.NoAnswer, cs.NoCase, cs.NoBranch, cs.Nothing, cs.TooMany, cs.TooDear, cs.Broken, cs.Unfit, cs.NeverFits, cs.Refused, cs.LookFailed, cs.NoLook]
def errS : List Nat := [0, 0, 0, 0, 0, 0, 0, 0, 0, 0, 0, 0, 0, 0, 0, 0, 1, 1, 1, 1, 1, 1, 1, 2, 2, 3, 3, 3, 3, 3, 3]
def errB : List String := ["ValueError", "LookupError", "OverflowError", "RuntimeError"]
/-- facts of classes that the plain laws need -/
structure Fk (K : PySem.W.Frag) (cs : Cs) : Prop where
  kM : (List.range 31).all (fun i => (List.range 31).all fun j => decide (PySem.W.kitOne K (.ref ((errL cs).getD i 0)) (.ref ((errL cs).getD j 0)) = some (decide (i = j)))) = true
  kB : (List.range 31).all (fun i => (List.range 4).all fun j => decide (PySem.W.kitOne K (.ref ((errL cs).getD i 0)) (.type (errB.getD j "")) = some (decide (errS.getD i 9 = j)))) = true
  kD : (List.range 31).all (fun i => decide (PySem.W.kitAny K (.ref ((errL cs).getD i 0)) [.type "IndexError", .type "KeyError", .type "NotImplementedError"] = some false)) = true
  ck_InvalidTable : CauK K cs.InvalidTable ["argument"]
  ck_InvalidSchema : CauK K cs.InvalidSchema []
  ck_InvalidRow : CauK K cs.InvalidRow ["value"]
  ck_OtherSchema : CauK K cs.OtherSchema []
  ck_InvalidRule : CauK K cs.InvalidRule ["argument"]
  ck_Misfit : CauK K cs.Misfit ["index"]
  ck_Circle : CauK K cs.Circle ["value"]
  ck_InvalidFact : CauK K cs.InvalidFact ["index"]
  ck_InvalidChange : CauK K cs.InvalidChange ["index"]
  ck_InvalidAnswer : CauK K cs.InvalidAnswer ["value"]
  ck_InvalidTemplate : CauK K cs.InvalidTemplate ["index"]
  ck_InvalidNames : CauK K cs.InvalidNames ["value"]
  ck_InvalidPair : CauK K cs.InvalidPair []
  ck_InvalidLimit : CauK K cs.InvalidLimit ["value"]
  ck_Unreadable : CauK K cs.Unreadable ["index"]
  ck_NoLine : CauK K cs.NoLine []
  ck_UnknownTable : CauK K cs.UnknownTable ["value"]
  ck_UnknownColumn : CauK K cs.UnknownColumn ["value"]
  ck_OutOfRange : CauK K cs.OutOfRange ["value"]
  ck_NoAnswer : CauK K cs.NoAnswer ["value"]
  ck_NoCase : CauK K cs.NoCase ["case"]
  ck_NoBranch : CauK K cs.NoBranch ["value"]
  ck_Nothing : CauK K cs.Nothing []
  ck_TooMany : CauK K cs.TooMany ["limit"]
  ck_TooDear : CauK K cs.TooDear ["number"]
  ck_Broken : CauK K cs.Broken ["index", "spot"]
  ck_Unfit : CauK K cs.Unfit ["index"]
  ck_NeverFits : CauK K cs.NeverFits []
  ck_Refused : CauK K cs.Refused ["change"]
  ck_LookFailed : CauK K cs.LookFailed ["number"]
  ck_NoLook : CauK K cs.NoLook ["value"]
structure All (P : Program) (K : PySem.W.Frag) (mg : Str → Option Value) (cs : Cs) where
  fk : Fk K cs
  a_InvalidTable___init__ : Addr
  d_InvalidTable___init__ : FuncData
  cc_InvalidTable___init__ : Addr
  c_InvalidTable___init__ : Addr
  F_InvalidTable___init__ : FunS K "__init__" "InvalidTable.__init__" s_InvalidTable___init__ a_InvalidTable___init__ d_InvalidTable___init__ cc_InvalidTable___init__ c_InvalidTable___init__ cs.InvalidTable
  e_InvalidTable : ErrK P K mg "InvalidTable" cs.InvalidTable a_InvalidTable___init__ d_InvalidTable___init__ c_InvalidTable___init__ "ValueError" "ValueError.__new__" "ValueError.__init__" [.type "ValueError", .type "Exception", .type "BaseException", .type "object"] ["argument"] p_InvalidTable___init__
  kb_InvalidTable___init__ : KBn K d_InvalidTable___init__ p_InvalidTable___init__ 1 ["argument"] (fun us ws => us ++ ws) fun vs zs => vs ++ zs
  a_InvalidRow___init__ : Addr
  d_InvalidRow___init__ : FuncData
  cc_InvalidRow___init__ : Addr
  c_InvalidRow___init__ : Addr
  F_InvalidRow___init__ : FunS K "__init__" "InvalidRow.__init__" s_InvalidRow___init__ a_InvalidRow___init__ d_InvalidRow___init__ cc_InvalidRow___init__ c_InvalidRow___init__ cs.InvalidRow
  e_InvalidRow : ErrK P K mg "InvalidRow" cs.InvalidRow a_InvalidRow___init__ d_InvalidRow___init__ c_InvalidRow___init__ "ValueError" "ValueError.__new__" "ValueError.__init__" [.type "ValueError", .type "Exception", .type "BaseException", .type "object"] ["value"] p_InvalidRow___init__
  kb_InvalidRow___init__ : KBn K d_InvalidRow___init__ p_InvalidRow___init__ 1 ["value"] (fun us ws => us ++ ws) fun vs zs => vs ++ zs
  a_InvalidRule___init__ : Addr
  d_InvalidRule___init__ : FuncData
  cc_InvalidRule___init__ : Addr
  c_InvalidRule___init__ : Addr
  F_InvalidRule___init__ : FunS K "__init__" "InvalidRule.__init__" s_InvalidRule___init__ a_InvalidRule___init__ d_InvalidRule___init__ cc_InvalidRule___init__ c_InvalidRule___init__ cs.InvalidRule
  e_InvalidRule : ErrK P K mg "InvalidRule" cs.InvalidRule a_InvalidRule___init__ d_InvalidRule___init__ c_InvalidRule___init__ "ValueError" "ValueError.__new__" "ValueError.__init__" [.type "ValueError", .type "Exception", .type "BaseException", .type "object"] ["argument"] p_InvalidRule___init__
  kb_InvalidRule___init__ : KBn K d_InvalidRule___init__ p_InvalidRule___init__ 1 ["argument"] (fun us ws => us ++ ws) fun vs zs => vs ++ zs
  a_Misfit___init__ : Addr
  d_Misfit___init__ : FuncData
  cc_Misfit___init__ : Addr
  c_Misfit___init__ : Addr
  F_Misfit___init__ : FunS K "__init__" "Misfit.__init__" s_Misfit___init__ a_Misfit___init__ d_Misfit___init__ cc_Misfit___init__ c_Misfit___init__ cs.Misfit
  e_Misfit : ErrK P K mg "Misfit" cs.Misfit a_Misfit___init__ d_Misfit___init__ c_Misfit___init__ "ValueError" "ValueError.__new__" "ValueError.__init__" [.type "ValueError", .type "Exception", .type "BaseException", .type "object"] ["index"] p_Misfit___init__
  kb_Misfit___init__ : KBn K d_Misfit___init__ p_Misfit___init__ 1 ["index"] (fun us ws => us ++ ws) fun vs zs => vs ++ zs
  a_Circle___init__ : Addr
  d_Circle___init__ : FuncData
  cc_Circle___init__ : Addr
  c_Circle___init__ : Addr
  F_Circle___init__ : FunS K "__init__" "Circle.__init__" s_Circle___init__ a_Circle___init__ d_Circle___init__ cc_Circle___init__ c_Circle___init__ cs.Circle
  e_Circle : ErrK P K mg "Circle" cs.Circle a_Circle___init__ d_Circle___init__ c_Circle___init__ "ValueError" "ValueError.__new__" "ValueError.__init__" [.type "ValueError", .type "Exception", .type "BaseException", .type "object"] ["value"] p_Circle___init__
  kb_Circle___init__ : KBn K d_Circle___init__ p_Circle___init__ 1 ["value"] (fun us ws => us ++ ws) fun vs zs => vs ++ zs
  a_InvalidFact___init__ : Addr
  d_InvalidFact___init__ : FuncData
  cc_InvalidFact___init__ : Addr
  c_InvalidFact___init__ : Addr
  F_InvalidFact___init__ : FunS K "__init__" "InvalidFact.__init__" s_InvalidFact___init__ a_InvalidFact___init__ d_InvalidFact___init__ cc_InvalidFact___init__ c_InvalidFact___init__ cs.InvalidFact
  e_InvalidFact : ErrK P K mg "InvalidFact" cs.InvalidFact a_InvalidFact___init__ d_InvalidFact___init__ c_InvalidFact___init__ "ValueError" "ValueError.__new__" "ValueError.__init__" [.type "ValueError", .type "Exception", .type "BaseException", .type "object"] ["index"] p_InvalidFact___init__
  kb_InvalidFact___init__ : KBn K d_InvalidFact___init__ p_InvalidFact___init__ 1 ["index"] (fun us ws => us ++ ws) fun vs zs => vs ++ zs
  a_InvalidChange___init__ : Addr
  d_InvalidChange___init__ : FuncData
  cc_InvalidChange___init__ : Addr
  c_InvalidChange___init__ : Addr
  F_InvalidChange___init__ : FunS K "__init__" "InvalidChange.__init__" s_InvalidChange___init__ a_InvalidChange___init__ d_InvalidChange___init__ cc_InvalidChange___init__ c_InvalidChange___init__ cs.InvalidChange
  e_InvalidChange : ErrK P K mg "InvalidChange" cs.InvalidChange a_InvalidChange___init__ d_InvalidChange___init__ c_InvalidChange___init__ "ValueError" "ValueError.__new__" "ValueError.__init__" [.type "ValueError", .type "Exception", .type "BaseException", .type "object"] ["index"] p_InvalidChange___init__
  kb_InvalidChange___init__ : KBn K d_InvalidChange___init__ p_InvalidChange___init__ 1 ["index"] (fun us ws => us ++ ws) fun vs zs => vs ++ zs
  a_InvalidAnswer___init__ : Addr
  d_InvalidAnswer___init__ : FuncData
  cc_InvalidAnswer___init__ : Addr
  c_InvalidAnswer___init__ : Addr
  F_InvalidAnswer___init__ : FunS K "__init__" "InvalidAnswer.__init__" s_InvalidAnswer___init__ a_InvalidAnswer___init__ d_InvalidAnswer___init__ cc_InvalidAnswer___init__ c_InvalidAnswer___init__ cs.InvalidAnswer
  e_InvalidAnswer : ErrK P K mg "InvalidAnswer" cs.InvalidAnswer a_InvalidAnswer___init__ d_InvalidAnswer___init__ c_InvalidAnswer___init__ "ValueError" "ValueError.__new__" "ValueError.__init__" [.type "ValueError", .type "Exception", .type "BaseException", .type "object"] ["value"] p_InvalidAnswer___init__
  kb_InvalidAnswer___init__ : KBn K d_InvalidAnswer___init__ p_InvalidAnswer___init__ 1 ["value"] (fun us ws => us ++ ws) fun vs zs => vs ++ zs
  a_InvalidTemplate___init__ : Addr
  d_InvalidTemplate___init__ : FuncData
  cc_InvalidTemplate___init__ : Addr
  c_InvalidTemplate___init__ : Addr
  F_InvalidTemplate___init__ : FunS K "__init__" "InvalidTemplate.__init__" s_InvalidTemplate___init__ a_InvalidTemplate___init__ d_InvalidTemplate___init__ cc_InvalidTemplate___init__ c_InvalidTemplate___init__ cs.InvalidTemplate
  e_InvalidTemplate : ErrK P K mg "InvalidTemplate" cs.InvalidTemplate a_InvalidTemplate___init__ d_InvalidTemplate___init__ c_InvalidTemplate___init__ "ValueError" "ValueError.__new__" "ValueError.__init__" [.type "ValueError", .type "Exception", .type "BaseException", .type "object"] ["index"] p_InvalidTemplate___init__
  kb_InvalidTemplate___init__ : KBn K d_InvalidTemplate___init__ p_InvalidTemplate___init__ 1 ["index"] (fun us ws => us ++ ws) fun vs zs => vs ++ zs
  a_InvalidNames___init__ : Addr
  d_InvalidNames___init__ : FuncData
  cc_InvalidNames___init__ : Addr
  c_InvalidNames___init__ : Addr
  F_InvalidNames___init__ : FunS K "__init__" "InvalidNames.__init__" s_InvalidNames___init__ a_InvalidNames___init__ d_InvalidNames___init__ cc_InvalidNames___init__ c_InvalidNames___init__ cs.InvalidNames
  e_InvalidNames : ErrK P K mg "InvalidNames" cs.InvalidNames a_InvalidNames___init__ d_InvalidNames___init__ c_InvalidNames___init__ "ValueError" "ValueError.__new__" "ValueError.__init__" [.type "ValueError", .type "Exception", .type "BaseException", .type "object"] ["value"] p_InvalidNames___init__
  kb_InvalidNames___init__ : KBn K d_InvalidNames___init__ p_InvalidNames___init__ 1 ["value"] (fun us ws => us ++ ws) fun vs zs => vs ++ zs
  a_InvalidLimit___init__ : Addr
  d_InvalidLimit___init__ : FuncData
  cc_InvalidLimit___init__ : Addr
  c_InvalidLimit___init__ : Addr
  F_InvalidLimit___init__ : FunS K "__init__" "InvalidLimit.__init__" s_InvalidLimit___init__ a_InvalidLimit___init__ d_InvalidLimit___init__ cc_InvalidLimit___init__ c_InvalidLimit___init__ cs.InvalidLimit
  e_InvalidLimit : ErrK P K mg "InvalidLimit" cs.InvalidLimit a_InvalidLimit___init__ d_InvalidLimit___init__ c_InvalidLimit___init__ "ValueError" "ValueError.__new__" "ValueError.__init__" [.type "ValueError", .type "Exception", .type "BaseException", .type "object"] ["value"] p_InvalidLimit___init__
  kb_InvalidLimit___init__ : KBn K d_InvalidLimit___init__ p_InvalidLimit___init__ 1 ["value"] (fun us ws => us ++ ws) fun vs zs => vs ++ zs
  a_Unreadable___init__ : Addr
  d_Unreadable___init__ : FuncData
  cc_Unreadable___init__ : Addr
  c_Unreadable___init__ : Addr
  F_Unreadable___init__ : FunS K "__init__" "Unreadable.__init__" s_Unreadable___init__ a_Unreadable___init__ d_Unreadable___init__ cc_Unreadable___init__ c_Unreadable___init__ cs.Unreadable
  e_Unreadable : ErrK P K mg "Unreadable" cs.Unreadable a_Unreadable___init__ d_Unreadable___init__ c_Unreadable___init__ "ValueError" "ValueError.__new__" "ValueError.__init__" [.type "ValueError", .type "Exception", .type "BaseException", .type "object"] ["index"] p_Unreadable___init__
  kb_Unreadable___init__ : KBn K d_Unreadable___init__ p_Unreadable___init__ 1 ["index"] (fun us ws => us ++ ws) fun vs zs => vs ++ zs
  a_UnknownTable___init__ : Addr
  d_UnknownTable___init__ : FuncData
  cc_UnknownTable___init__ : Addr
  c_UnknownTable___init__ : Addr
  F_UnknownTable___init__ : FunS K "__init__" "UnknownTable.__init__" s_UnknownTable___init__ a_UnknownTable___init__ d_UnknownTable___init__ cc_UnknownTable___init__ c_UnknownTable___init__ cs.UnknownTable
  e_UnknownTable : ErrK P K mg "UnknownTable" cs.UnknownTable a_UnknownTable___init__ d_UnknownTable___init__ c_UnknownTable___init__ "LookupError" "LookupError.__new__" "LookupError.__init__" [.type "LookupError", .type "Exception", .type "BaseException", .type "object"] ["value"] p_UnknownTable___init__
  kb_UnknownTable___init__ : KBn K d_UnknownTable___init__ p_UnknownTable___init__ 1 ["value"] (fun us ws => us ++ ws) fun vs zs => vs ++ zs
  a_UnknownColumn___init__ : Addr
  d_UnknownColumn___init__ : FuncData
  cc_UnknownColumn___init__ : Addr
  c_UnknownColumn___init__ : Addr
  F_UnknownColumn___init__ : FunS K "__init__" "UnknownColumn.__init__" s_UnknownColumn___init__ a_UnknownColumn___init__ d_UnknownColumn___init__ cc_UnknownColumn___init__ c_UnknownColumn___init__ cs.UnknownColumn
  e_UnknownColumn : ErrK P K mg "UnknownColumn" cs.UnknownColumn a_UnknownColumn___init__ d_UnknownColumn___init__ c_UnknownColumn___init__ "LookupError" "LookupError.__new__" "LookupError.__init__" [.type "LookupError", .type "Exception", .type "BaseException", .type "object"] ["value"] p_UnknownColumn___init__
  kb_UnknownColumn___init__ : KBn K d_UnknownColumn___init__ p_UnknownColumn___init__ 1 ["value"] (fun us ws => us ++ ws) fun vs zs => vs ++ zs
  a_OutOfRange___init__ : Addr
  d_OutOfRange___init__ : FuncData
  cc_OutOfRange___init__ : Addr
  c_OutOfRange___init__ : Addr
  F_OutOfRange___init__ : FunS K "__init__" "OutOfRange.__init__" s_OutOfRange___init__ a_OutOfRange___init__ d_OutOfRange___init__ cc_OutOfRange___init__ c_OutOfRange___init__ cs.OutOfRange
  e_OutOfRange : ErrK P K mg "OutOfRange" cs.OutOfRange a_OutOfRange___init__ d_OutOfRange___init__ c_OutOfRange___init__ "LookupError" "LookupError.__new__" "LookupError.__init__" [.type "LookupError", .type "Exception", .type "BaseException", .type "object"] ["value"] p_OutOfRange___init__
  kb_OutOfRange___init__ : KBn K d_OutOfRange___init__ p_OutOfRange___init__ 1 ["value"] (fun us ws => us ++ ws) fun vs zs => vs ++ zs
  a_NoAnswer___init__ : Addr
  d_NoAnswer___init__ : FuncData
  cc_NoAnswer___init__ : Addr
  c_NoAnswer___init__ : Addr
  F_NoAnswer___init__ : FunS K "__init__" "NoAnswer.__init__" s_NoAnswer___init__ a_NoAnswer___init__ d_NoAnswer___init__ cc_NoAnswer___init__ c_NoAnswer___init__ cs.NoAnswer
  e_NoAnswer : ErrK P K mg "NoAnswer" cs.NoAnswer a_NoAnswer___init__ d_NoAnswer___init__ c_NoAnswer___init__ "LookupError" "LookupError.__new__" "LookupError.__init__" [.type "LookupError", .type "Exception", .type "BaseException", .type "object"] ["value"] p_NoAnswer___init__
  kb_NoAnswer___init__ : KBn K d_NoAnswer___init__ p_NoAnswer___init__ 1 ["value"] (fun us ws => us ++ ws) fun vs zs => vs ++ zs
  a_NoCase___init__ : Addr
  d_NoCase___init__ : FuncData
  cc_NoCase___init__ : Addr
  c_NoCase___init__ : Addr
  F_NoCase___init__ : FunS K "__init__" "NoCase.__init__" s_NoCase___init__ a_NoCase___init__ d_NoCase___init__ cc_NoCase___init__ c_NoCase___init__ cs.NoCase
  e_NoCase : ErrK P K mg "NoCase" cs.NoCase a_NoCase___init__ d_NoCase___init__ c_NoCase___init__ "LookupError" "LookupError.__new__" "LookupError.__init__" [.type "LookupError", .type "Exception", .type "BaseException", .type "object"] ["case"] p_NoCase___init__
  kb_NoCase___init__ : KBn K d_NoCase___init__ p_NoCase___init__ 1 ["case"] (fun us ws => us ++ ws) fun vs zs => vs ++ zs
  a_NoBranch___init__ : Addr
  d_NoBranch___init__ : FuncData
  cc_NoBranch___init__ : Addr
  c_NoBranch___init__ : Addr
  F_NoBranch___init__ : FunS K "__init__" "NoBranch.__init__" s_NoBranch___init__ a_NoBranch___init__ d_NoBranch___init__ cc_NoBranch___init__ c_NoBranch___init__ cs.NoBranch
  e_NoBranch : ErrK P K mg "NoBranch" cs.NoBranch a_NoBranch___init__ d_NoBranch___init__ c_NoBranch___init__ "LookupError" "LookupError.__new__" "LookupError.__init__" [.type "LookupError", .type "Exception", .type "BaseException", .type "object"] ["value"] p_NoBranch___init__
  kb_NoBranch___init__ : KBn K d_NoBranch___init__ p_NoBranch___init__ 1 ["value"] (fun us ws => us ++ ws) fun vs zs => vs ++ zs
  a_TooMany___init__ : Addr
  d_TooMany___init__ : FuncData
  cc_TooMany___init__ : Addr
  c_TooMany___init__ : Addr
  F_TooMany___init__ : FunS K "__init__" "TooMany.__init__" s_TooMany___init__ a_TooMany___init__ d_TooMany___init__ cc_TooMany___init__ c_TooMany___init__ cs.TooMany
  e_TooMany : ErrK P K mg "TooMany" cs.TooMany a_TooMany___init__ d_TooMany___init__ c_TooMany___init__ "OverflowError" "OverflowError.__new__" "OverflowError.__init__" [.type "OverflowError", .type "ArithmeticError", .type "Exception", .type "BaseException", .type "object"] ["limit"] p_TooMany___init__
  kb_TooMany___init__ : KBn K d_TooMany___init__ p_TooMany___init__ 1 ["limit"] (fun us ws => us ++ ws) fun vs zs => vs ++ zs
  a_TooDear___init__ : Addr
  d_TooDear___init__ : FuncData
  cc_TooDear___init__ : Addr
  c_TooDear___init__ : Addr
  F_TooDear___init__ : FunS K "__init__" "TooDear.__init__" s_TooDear___init__ a_TooDear___init__ d_TooDear___init__ cc_TooDear___init__ c_TooDear___init__ cs.TooDear
  e_TooDear : ErrK P K mg "TooDear" cs.TooDear a_TooDear___init__ d_TooDear___init__ c_TooDear___init__ "OverflowError" "OverflowError.__new__" "OverflowError.__init__" [.type "OverflowError", .type "ArithmeticError", .type "Exception", .type "BaseException", .type "object"] ["number"] p_TooDear___init__
  kb_TooDear___init__ : KBn K d_TooDear___init__ p_TooDear___init__ 1 ["number"] (fun us ws => us ++ ws) fun vs zs => vs ++ zs
  a_Broken___init__ : Addr
  d_Broken___init__ : FuncData
  cc_Broken___init__ : Addr
  c_Broken___init__ : Addr
  F_Broken___init__ : FunS K "__init__" "Broken.__init__" s_Broken___init__ a_Broken___init__ d_Broken___init__ cc_Broken___init__ c_Broken___init__ cs.Broken
  e_Broken : ErrK P K mg "Broken" cs.Broken a_Broken___init__ d_Broken___init__ c_Broken___init__ "RuntimeError" "RuntimeError.__new__" "RuntimeError.__init__" [.type "RuntimeError", .type "Exception", .type "BaseException", .type "object"] ["index", "spot"] p_Broken___init__
  kb_Broken___init__ : KBn K d_Broken___init__ p_Broken___init__ 1 ["spot", "index"] (fun us ws => us ++ ws.reverse) fun vs zs => vs ++ zs.reverse
  a_Unfit___init__ : Addr
  d_Unfit___init__ : FuncData
  cc_Unfit___init__ : Addr
  c_Unfit___init__ : Addr
  F_Unfit___init__ : FunS K "__init__" "Unfit.__init__" s_Unfit___init__ a_Unfit___init__ d_Unfit___init__ cc_Unfit___init__ c_Unfit___init__ cs.Unfit
  e_Unfit : ErrK P K mg "Unfit" cs.Unfit a_Unfit___init__ d_Unfit___init__ c_Unfit___init__ "RuntimeError" "RuntimeError.__new__" "RuntimeError.__init__" [.type "RuntimeError", .type "Exception", .type "BaseException", .type "object"] ["index"] p_Unfit___init__
  kb_Unfit___init__ : KBn K d_Unfit___init__ p_Unfit___init__ 1 ["index"] (fun us ws => us ++ ws) fun vs zs => vs ++ zs
  a_Refused___init__ : Addr
  d_Refused___init__ : FuncData
  cc_Refused___init__ : Addr
  c_Refused___init__ : Addr
  F_Refused___init__ : FunS K "__init__" "Refused.__init__" s_Refused___init__ a_Refused___init__ d_Refused___init__ cc_Refused___init__ c_Refused___init__ cs.Refused
  e_Refused : ErrK P K mg "Refused" cs.Refused a_Refused___init__ d_Refused___init__ c_Refused___init__ "RuntimeError" "RuntimeError.__new__" "RuntimeError.__init__" [.type "RuntimeError", .type "Exception", .type "BaseException", .type "object"] ["change"] p_Refused___init__
  kb_Refused___init__ : KBn K d_Refused___init__ p_Refused___init__ 1 ["change"] (fun us ws => us ++ ws) fun vs zs => vs ++ zs
  a_LookFailed___init__ : Addr
  d_LookFailed___init__ : FuncData
  cc_LookFailed___init__ : Addr
  c_LookFailed___init__ : Addr
  F_LookFailed___init__ : FunS K "__init__" "LookFailed.__init__" s_LookFailed___init__ a_LookFailed___init__ d_LookFailed___init__ cc_LookFailed___init__ c_LookFailed___init__ cs.LookFailed
  e_LookFailed : ErrK P K mg "LookFailed" cs.LookFailed a_LookFailed___init__ d_LookFailed___init__ c_LookFailed___init__ "RuntimeError" "RuntimeError.__new__" "RuntimeError.__init__" [.type "RuntimeError", .type "Exception", .type "BaseException", .type "object"] ["number"] p_LookFailed___init__
  kb_LookFailed___init__ : KBn K d_LookFailed___init__ p_LookFailed___init__ 1 ["number"] (fun us ws => us ++ ws) fun vs zs => vs ++ zs
  a_NoLook___init__ : Addr
  d_NoLook___init__ : FuncData
  cc_NoLook___init__ : Addr
  c_NoLook___init__ : Addr
  F_NoLook___init__ : FunS K "__init__" "NoLook.__init__" s_NoLook___init__ a_NoLook___init__ d_NoLook___init__ cc_NoLook___init__ c_NoLook___init__ cs.NoLook
  e_NoLook : ErrK P K mg "NoLook" cs.NoLook a_NoLook___init__ d_NoLook___init__ c_NoLook___init__ "RuntimeError" "RuntimeError.__new__" "RuntimeError.__init__" [.type "RuntimeError", .type "Exception", .type "BaseException", .type "object"] ["value"] p_NoLook___init__
  kb_NoLook___init__ : KBn K d_NoLook___init__ p_NoLook___init__ 1 ["value"] (fun us ws => us ++ ws) fun vs zs => vs ++ zs
  a__law_pen : Addr
  d__law_pen : FuncData
  F__law_pen : Fun K "_law_pen" "_law_pen" s__law_pen a__law_pen d__law_pen
  D__law_pen : Dk K mg "_law_pen" a__law_pen d__law_pen p__law_pen
  a__law_draw : Addr
  d__law_draw : FuncData
  F__law_draw : Fun K "_law_draw" "_law_draw" s__law_draw a__law_draw d__law_draw
  D__law_draw : Dk K mg "_law_draw" a__law_draw d__law_draw p__law_draw
  a__law_pick : Addr
  d__law_pick : FuncData
  F__law_pick : Fun K "_law_pick" "_law_pick" s__law_pick a__law_pick d__law_pick
  D__law_pick : Dk K mg "_law_pick" a__law_pick d__law_pick p__law_pick
  a__law_any_value : Addr
  d__law_any_value : FuncData
  F__law_any_value : Fun K "_law_any_value" "_law_any_value" s__law_any_value a__law_any_value d__law_any_value
  D__law_any_value : Dk K mg "_law_any_value" a__law_any_value d__law_any_value p__law_any_value
  a__law_some_errors : Addr
  d__law_some_errors : FuncData
  F__law_some_errors : Fun K "_law_some_errors" "_law_some_errors" s__law_some_errors a__law_some_errors d__law_some_errors
  D__law_some_errors : Dk K mg "_law_some_errors" a__law_some_errors d__law_some_errors p__law_some_errors
  a__law_other_errors : Addr
  d__law_other_errors : FuncData
  F__law_other_errors : Fun K "_law_other_errors" "_law_other_errors" s__law_other_errors a__law_other_errors d__law_other_errors
  D__law_other_errors : Dk K mg "_law_other_errors" a__law_other_errors d__law_other_errors p__law_other_errors
  a__law_classes : Addr
  d__law_classes : FuncData
  F__law_classes : Fun K "_law_classes" "_law_classes" s__law_classes a__law_classes d__law_classes
  D__law_classes : Dk K mg "_law_classes" a__law_classes d__law_classes p__law_classes
  a__law_sorts : Addr
  d__law_sorts : FuncData
  F__law_sorts : Fun K "_law_sorts" "_law_sorts" s__law_sorts a__law_sorts d__law_sorts
  D__law_sorts : Dk K mg "_law_sorts" a__law_sorts d__law_sorts p__law_sorts
  a_law : Addr
  d_law : FuncData
  F_law : Fun K "law" "law" s_law a_law d_law
  D_law : Dk K mg "law" a_law d_law p_law
  x0_InvalidSchema : PySem.W.excIn K cs.InvalidSchema [.type "ValueError", .type "Exception", .type "BaseException", .type "object"] "ValueError.__new__" = true
  kc_InvalidSchema : PySem.W.keepIn K (.ref cs.InvalidSchema) = true
  be_InvalidSchema : PySem.W.subIn K (.ref cs.InvalidSchema) (.type "BaseException") = some true
  ty_InvalidSchema : PySem.W.typeIn K (.ref cs.InvalidSchema) = some (.type "type")
  x0_OtherSchema : PySem.W.excIn K cs.OtherSchema [.type "ValueError", .type "Exception", .type "BaseException", .type "object"] "ValueError.__new__" = true
  kc_OtherSchema : PySem.W.keepIn K (.ref cs.OtherSchema) = true
  be_OtherSchema : PySem.W.subIn K (.ref cs.OtherSchema) (.type "BaseException") = some true
  ty_OtherSchema : PySem.W.typeIn K (.ref cs.OtherSchema) = some (.type "type")
  x0_InvalidPair : PySem.W.excIn K cs.InvalidPair [.type "ValueError", .type "Exception", .type "BaseException", .type "object"] "ValueError.__new__" = true
  kc_InvalidPair : PySem.W.keepIn K (.ref cs.InvalidPair) = true
  be_InvalidPair : PySem.W.subIn K (.ref cs.InvalidPair) (.type "BaseException") = some true
  ty_InvalidPair : PySem.W.typeIn K (.ref cs.InvalidPair) = some (.type "type")
  x0_NoLine : PySem.W.excIn K cs.NoLine [.type "ValueError", .type "Exception", .type "BaseException", .type "object"] "ValueError.__new__" = true
  kc_NoLine : PySem.W.keepIn K (.ref cs.NoLine) = true
  be_NoLine : PySem.W.subIn K (.ref cs.NoLine) (.type "BaseException") = some true
  ty_NoLine : PySem.W.typeIn K (.ref cs.NoLine) = some (.type "type")
  x0_Nothing : PySem.W.excIn K cs.Nothing [.type "LookupError", .type "Exception", .type "BaseException", .type "object"] "LookupError.__new__" = true
  kc_Nothing : PySem.W.keepIn K (.ref cs.Nothing) = true
  be_Nothing : PySem.W.subIn K (.ref cs.Nothing) (.type "BaseException") = some true
  ty_Nothing : PySem.W.typeIn K (.ref cs.Nothing) = some (.type "type")
  x0_NeverFits : PySem.W.excIn K cs.NeverFits [.type "RuntimeError", .type "Exception", .type "BaseException", .type "object"] "RuntimeError.__new__" = true
  kc_NeverFits : PySem.W.keepIn K (.ref cs.NeverFits) = true
  be_NeverFits : PySem.W.subIn K (.ref cs.NeverFits) (.type "BaseException") = some true
  ty_NeverFits : PySem.W.typeIn K (.ref cs.NeverFits) = some (.type "type")
  b_isinstance : mg "isinstance" = none
  b_len : mg "len" = none
  b_list : mg "list" = none
  b_zip : mg "zip" = none
  b_range : mg "range" = none
  b_int : mg "int" = none
  b_abs : mg "abs" = none
  b_repr : mg "repr" = none
  b_min : mg "min" = none
  b_super : mg "super" = none
  b_ValueError : mg "ValueError" = none
  b_LookupError : mg "LookupError" = none
  b_OverflowError : mg "OverflowError" = none
  b_RuntimeError : mg "RuntimeError" = none
  b_IndexError : mg "IndexError" = none
  b_KeyError : mg "KeyError" = none
  b_NotImplementedError : mg "NotImplementedError" = none
  k_MAX_WORD : ∃ t, mg "MAX_WORD" = some (.int 8 t)
  k_MAX_TABLES : ∃ t, mg "MAX_TABLES" = some (.int 4 t)
  k_MAX_COLUMNS : ∃ t, mg "MAX_COLUMNS" = some (.int 3 t)
  k_MAX_STATEMENTS : ∃ t, mg "MAX_STATEMENTS" = some (.int 5 t)
  k_MAX_LEAST : ∃ t, mg "MAX_LEAST" = some (.int 2 t)
  k_MAX_MOST : ∃ t, mg "MAX_MOST" = some (.int 3 t)
  k_MAX_ENTRIES : ∃ t, mg "MAX_ENTRIES" = some (.int 3 t)
  k_MAX_WANTED : ∃ t, mg "MAX_WANTED" = some (.int 16 t)
  k_MAX_PAPER : ∃ t, mg "MAX_PAPER" = some (.int 6 t)
  k_MAX_ANSWERS : ∃ t, mg "MAX_ANSWERS" = some (.int 200 t)
  k_MAX_OPEN : ∃ t, mg "MAX_OPEN" = some (.int 8 t)
  k_MAX_NAMES : ∃ t, mg "MAX_NAMES" = some (.int 4 t)
  g_InvalidTable : mg "InvalidTable" = some (.ref cs.InvalidTable)
  g_InvalidSchema : mg "InvalidSchema" = some (.ref cs.InvalidSchema)
  g_InvalidRow : mg "InvalidRow" = some (.ref cs.InvalidRow)
  g_OtherSchema : mg "OtherSchema" = some (.ref cs.OtherSchema)
  g_InvalidRule : mg "InvalidRule" = some (.ref cs.InvalidRule)
  g_Misfit : mg "Misfit" = some (.ref cs.Misfit)
  g_Circle : mg "Circle" = some (.ref cs.Circle)
  g_InvalidFact : mg "InvalidFact" = some (.ref cs.InvalidFact)
  g_InvalidChange : mg "InvalidChange" = some (.ref cs.InvalidChange)
  g_InvalidAnswer : mg "InvalidAnswer" = some (.ref cs.InvalidAnswer)
  g_InvalidTemplate : mg "InvalidTemplate" = some (.ref cs.InvalidTemplate)
  g_InvalidNames : mg "InvalidNames" = some (.ref cs.InvalidNames)
  g_InvalidPair : mg "InvalidPair" = some (.ref cs.InvalidPair)
  g_InvalidLimit : mg "InvalidLimit" = some (.ref cs.InvalidLimit)
  g_Unreadable : mg "Unreadable" = some (.ref cs.Unreadable)
  g_NoLine : mg "NoLine" = some (.ref cs.NoLine)
  g_UnknownTable : mg "UnknownTable" = some (.ref cs.UnknownTable)
  g_UnknownColumn : mg "UnknownColumn" = some (.ref cs.UnknownColumn)
  g_OutOfRange : mg "OutOfRange" = some (.ref cs.OutOfRange)
  g_NoAnswer : mg "NoAnswer" = some (.ref cs.NoAnswer)
  g_NoCase : mg "NoCase" = some (.ref cs.NoCase)
  g_NoBranch : mg "NoBranch" = some (.ref cs.NoBranch)
  g_Nothing : mg "Nothing" = some (.ref cs.Nothing)
  g_TooMany : mg "TooMany" = some (.ref cs.TooMany)
  g_TooDear : mg "TooDear" = some (.ref cs.TooDear)
  g_Broken : mg "Broken" = some (.ref cs.Broken)
  g_Unfit : mg "Unfit" = some (.ref cs.Unfit)
  g_NeverFits : mg "NeverFits" = some (.ref cs.NeverFits)
  g_Refused : mg "Refused" = some (.ref cs.Refused)
  g_LookFailed : mg "LookFailed" = some (.ref cs.LookFailed)
  g_NoLook : mg "NoLook" = some (.ref cs.NoLook)
end Q
namespace Q
open PySem L2
structure BiP (mg : Str → Option Value) : Prop where
  len : mg "len" = none
  list : mg "list" = none
  int : mg "int" = none
  abs : mg "abs" = none
theorem dget_some {H : Hp} {a : Addr} {kvs : List (Key × V)} {k : Key} {v : V} (h : H a = some (.dK kvs)) (e : valV kvs k = some v) : DGet H a (kV k) (some v) := by rw [← e]; exact .k h
section
variable {P : Program} {w : World} {K : PySem.W.Frag} {mg : Str → Option Value} {base : Heap} {f : Addr} {fd : FuncData} {f1 f2 f3 : Addr} {fd1 fd2 fd3 : FuncData} {cs : Cs}
theorem ok_pen0 (F : Fun K "_law_pen" "_law_pen" s__law_pen f fd) (B : BiP mg) : FnOk P w K mg base CX0 1 f fd ["_law_script"] (spPen K) := by
  refine F.ok sc__law_pen (fun vs H Q E h => ?_) (fun cdv A outer s H vs Q E hr h => ?_)
  · obtain ⟨a, ns, rfl, _⟩ := h
    rfl
  · obtain ⟨a, ns, rfl, hs, hn, k⟩ := h
    refine ⟨_, (pss_one (ps_ret (pe_disp (pps_cons pe_str (pe_callTy (kList K) (by rfl) B.list (by decide +kernel) (pa_cons (pe_slice (kSlL K) (pv 0) po_none (po_some pe_int)) pa_nil)) (pps_cons pe_str pe_int (pps_cons pe_str pe_int pps_nil))) (by rfl) (by rfl) (fun z => by cases z) (by decide)))), ?_⟩
    intro p hp
    refine ⟨_, rfl, _, rfl, a, _, rfl, same_l (same_new hp) hs, fun b hb => ?_⟩
    have npb : p ≠ b := ne_of_none upd_same hb
    refine ⟨b, _, rfl, .inl (SqL.of upd_same), fun c hc => ?_⟩
    have npc : p ≠ c := ne_of_none (by rw [upd_ne npb]; exact upd_same) hc
    refine ⟨by rw [upd_ne npc, upd_ne npb]; exact upd_same, penK c 0 0, rfl, (show 3 ≤ 15 by decide), ?_⟩
    have e1 : cutV (ns.map V.int) none (some 63) = ns.map V.int := by
      rw [show (63 : Int) = ((63 : Nat) : Int) from rfl, cut_take, List.take_of_length_le (by rw [List.length_map]; exact hn)]
    refine k p c _ hp (upd_none (upd_none hc)) npc (same_mut (((same_new hp).trans (same_new hb)).trans (same_new hc)) hp) ⟨ns, 0, 0, ?_, ?_, hn, by omega, by omega, by omega⟩
    · rw [upd_same]
      rfl
    · rw [upd_ne npc.symm, upd_same, e1]
theorem ok_draw0 (F : Fun K "_law_draw" "_law_draw" s__law_draw f fd) (B : BiP mg) : FnOk P w K mg base CX0 1 f fd ["_law_pen_here", "_law_span"] spDraw := by
  refine F.ok sc__law_draw (fun vs H Q E h => ?_) (fun cdv A outer s H vs Q E hr h => ?_)
  · obtain ⟨p, c, n, span, rfl, _⟩ := h
    rfl
  · obtain ⟨p, c, n, span, rfl, hp, hn, h0, h1, k⟩ := h
    have hu := hu_of hr
    refine ⟨_, (pss_cons (ps_if (pt_cmpR op_gt (pe_dget hu (pv 0) pe_str (fun _ _ => rfl)) pe_int (nomark _)) (pss_cons (ps_set (i := 7) sc__law_draw.nd rfl (Or.inl rfl) (pe_op op_mod (pe_callTy call_int1 (by rfl) B.int (by decide +kernel) (pa_cons (pe_dget hu (pv 0) pe_str (fun _ _ => rfl)) pa_nil)) (pv 1)))
      (pss_cons (ps_dput hu (pv 0) pe_str (pe_op op_fdiv (pe_dget hu (pv 0) pe_str (fun _ _ => rfl)) (pv 1)) rfl)
      (pss_one (ps_ret (pv 7))))) pss_nil)
      (pss_cons (ps_set (i := 2) sc__law_draw.nd rfl (Or.inl rfl) (pe_dget hu (pv 0) pe_str (fun _ _ => rfl)))
      (pss_cons (ps_dput hu (pv 0) pe_str (pe_op op_add (pv 2) pe_int) rfl)
      (pss_cons (ps_set (i := 3) sc__law_draw.nd rfl (Or.inl rfl) (pe_op op_add (pe_op op_mul pe_int (pv 2)) pe_int))
      (pss_cons (ps_if (pt_cmpR (kNeD K hr.units) (pe_dget hu (pv 0) pe_str (fun _ _ => rfl)) (pe_lst pa_nil) (nomark _)) (pss_one (ps_set (i := 3) sc__law_draw.nd rfl (Or.inl rfl) (pe_ix (kIxL K) (pe_dget hu (pv 0) pe_str (fun _ _ => rfl)) (pe_op op_mod (pe_callTy call_int1 (by rfl) B.int (by decide +kernel) (pa_cons (pv 2) pa_nil)) (pe_callB (kLen K) (by rfl) B.len (by decide +kernel) (pa_cons (pe_dget hu (pv 0) pe_str (fun _ _ => rfl)) pa_nil))) (fun _ _ => rfl)))) pss_nil)
      (pss_cons (ps_if (PW.pt (pw_and (pt_cmpR op_lt (pv 2) (pe_callB (kLen K) (by rfl) B.len (by decide +kernel) (pa_cons (pe_dget hu (pv 0) pe_str (fun _ _ => rfl)) pa_nil)) (nomark _)) (pw_and1 (pt_cmpR op_ge (pe_callB call_abs (by rfl) B.abs (by decide +kernel) (pa_cons (pv 3) pa_nil)) (pe_op op_pow pe_int pe_int) (nomark _))))) (pss_cons (ps_dput hu (pv 0) pe_str (pe_op op_fdiv (pe_op op_sub (pe_callB call_abs (by rfl) B.abs (by decide +kernel) (pa_cons (pv 3) pa_nil)) (pe_op op_pow pe_int pe_int)) (pv 1)) rfl)
      (pss_one (ps_ret (pe_op op_mod (pe_callTy call_int1 (by rfl) B.int (by decide +kernel) (pa_cons (pe_op op_sub (pe_callB call_abs (by rfl) B.abs (by decide +kernel) (pa_cons (pv 3) pa_nil)) (pe_op op_pow pe_int pe_int)) pa_nil)) (pv 1))))) pss_nil)
      (pss_cons (ps_set (i := 4) sc__law_draw.nd rfl (Or.inl rfl) (pe_lst (pa_cons pe_int (pa_cons pe_int (pa_cons pe_int (pa_cons pe_int (pa_cons pe_int pa_nil)))))))
      (pss_cons (ps_set (i := 5) sc__law_draw.nd rfl (Or.inl rfl) (pe_ix (kIxL K) (pv 4) (pe_op op_mod (pe_callTy call_int1 (by rfl) B.int (by decide +kernel) (pa_cons (pv 2) pa_nil)) pe_int) (fun _ _ => rfl)))
      (pss_cons (ps_set (i := 6) sc__law_draw.nd rfl (Or.inl rfl) (pe_op op_mod (pe_callTy call_int1 (by rfl) B.int (by decide +kernel) (pa_cons (pe_op op_add (pe_op op_add (pe_op op_mul (pe_op op_mod (pe_callTy call_int1 (by rfl) B.int (by decide +kernel) (pa_cons (pv 3) pa_nil)) (pv 5)) pe_int) (pe_op op_mul (pv 2) (pe_op op_add (pe_op op_mul pe_int (pv 2)) pe_int))) pe_int) pa_nil)) (pv 5)))
      (pss_cons (ps_set (i := 6) sc__law_draw.nd rfl (Or.inl rfl) (pe_op op_mod (pe_callTy call_int1 (by rfl) B.int (by decide +kernel) (pa_cons (pe_op op_mul (pv 6) (pe_op op_add (pv 6) pe_int)) pa_nil)) (pe_ix (kIxL K) (pv 4) (pe_op op_mod (pe_callTy call_int1 (by rfl) B.int (by decide +kernel) (pa_cons (pe_op op_add (pv 2) pe_int) pa_nil)) pe_int) (fun _ _ => rfl))))
      (pss_one (ps_ret (pe_op op_mod (pe_callTy call_int1 (by rfl) B.int (by decide +kernel) (pa_cons (pe_op op_fdiv (pe_op op_mod (pe_callTy call_int1 (by rfl) B.int (by decide +kernel) (pa_cons (pe_op op_add (pe_op op_add (pe_op op_mul (pv 6) (pv 6)) (pe_op op_mul pe_int (pv 6))) (pv 2)) pa_nil)) pe_int) pe_int) pa_nil)) (pv 1)))))))))))))), ?_⟩
    obtain ⟨cells, t, l, q1, q2, q3, q4, q5, q6⟩ := hp.ex
    have ncp : c ≠ p := ne_of q2 q1 (by intro z; cases z)
    refine ⟨_, rfl, p, _, rfl, dget_some (k := kL) q1 (pen_left c t l), _, _, rfl, rfl, _, rfl, ?_⟩
    refine ite2 (fun hl => ?_) (fun hl => ?_)
    · -- a digit is left
      refine ⟨_, rfl, p, _, rfl, dget_some (k := kL) q1 (pen_left c t l), .inl ⟨_, rfl, _, rfl, _, _, rfl, rfl, h0, ?_⟩⟩
      refine ⟨_, rfl, p, _, rfl, dget_some (k := kL) q1 (pen_left c t l), _, rfl, _, _, rfl, rfl, ⟨h0, by omega⟩, _, rfl, p, _, rfl, DPut.k (k := kL) q1 (pen_len _ _ _), ?_⟩
      rw [put_left]
      refine ⟨_, rfl, k _ _ (Int.emod_nonneg _ (by omega)) (Int.emod_lt_of_pos _ h0) (sm_pen q1) ⟨cells, t, l / span, upd_same, by rw [upd_ne ncp]; exact q2, q3, q4, by omega, Int.ediv_nonneg q6 (by omega)⟩⟩
    · -- the next cell
      refine ⟨_, rfl, p, _, rfl, dget_some (k := kT) q1 (pen_turn c t l), ?_⟩
      refine ⟨_, rfl, _, _, rfl, rfl, _, rfl, p, _, rfl, DPut.k (k := kT) q1 (pen_len _ _ _), ?_⟩
      rw [put_turn]
      have s1 : Sb p H (upd H p (.dK (penK c (t + 1) l))) := sm_pen q1
      have r1 : (upd H p (.dK (penK c (t + 1) l))) p = some (.dK (penK c (t + 1) l)) := upd_same
      have r2 : (upd H p (.dK (penK c (t + 1) l))) c = some (.lst (cells.map V.int)) := by rw [upd_ne ncp]; exact q2
      generalize upd H p (.dK (penK c (t + 1) l)) = H1 at s1 r1 r2 ⊢
      refine ⟨_, rfl, _, _, rfl, rfl, .inl ⟨by decide, by decide⟩, _, _, rfl, rfl, ?_⟩
      refine ⟨_, rfl, p, _, rfl, dget_some (k := kC) r1 (pen_cells c _ l), Nat.zero_le _, fun e he => ?_⟩
      refine ⟨.list (cells.map PyData.int), .list [], .lst (SqL.of (same_new he _ _ r2)) (dpAll_ints _), .lst (SqL.of upd_same) .nil, shaped_ints _, rfl, _, rfl, ?_⟩
      have s2 : Sb p H (upd H1 e (.lst [])) := s1.trans (.of (same_new he))
      have r3 := same_new (o := HO.lst []) he _ _ r1
      have r4 := same_new (o := HO.lst []) he _ _ r2
      generalize upd H1 e (.lst []) = H2 at s2 r3 r4 ⊢
      rw [eqv_nil]
      have hlen : (cells.map V.int).length = cells.length := List.length_map ..
      refine ite2 (fun hc => ?_) (fun hc => ?_)
      · have hpos : 0 < cells.length := by
          cases cells with
          | nil => cases hc
          | cons a b => exact Nat.succ_pos _
        obtain ⟨x, ex⟩ := at_mod (xs := cells) q4 hpos
        refine ⟨_, rfl, p, _, rfl, dget_some (k := kC) r3 (pen_cells c _ l), _, rfl, .inl ⟨_, rfl, _, rfl, p, _, rfl, dget_some (k := kC) r3 (pen_cells c _ l), c, _, rfl, .inl (SqL.of r4), _, _, rfl, rfl, by rw [hlen]; omega, c, _, _, _, rfl, rfl, SqL.of r4, by rw [hlen]; exact ex, ?_⟩⟩
        refine ⟨_, rfl, _, rfl, p, _, rfl, dget_some (k := kC) r3 (pen_cells c _ l), c, _, rfl, .inl (SqL.of r4), _, _, rfl, rfl, _, rfl, ?_⟩
        generalize x = cv
        refine ite_next ?_ (fun hN _ => ?_)
        · refine ⟨by decide, fun e2 he2 => ?_⟩
          have s3 : Sb p H (upd H2 e2 (.lst [V.int 2147483629, V.int 2147483647, V.int 2147483587, V.int 2147483563, V.int 2147483579])) := s2.trans (.of (same_new he2))
          have r5 := same_new (o := HO.lst [V.int 2147483629, V.int 2147483647, V.int 2147483587, V.int 2147483563, V.int 2147483579]) he2 _ _ r3
          have r6 := same_new (o := HO.lst [V.int 2147483629, V.int 2147483647, V.int 2147483587, V.int 2147483563, V.int 2147483579]) he2 _ _ r4
          have r7 : (upd H2 e2 (.lst [V.int 2147483629, V.int 2147483647, V.int 2147483587, V.int 2147483563, V.int 2147483579])) e2 = some (.lst [V.int 2147483629, V.int 2147483647, V.int 2147483587, V.int 2147483563, V.int 2147483579]) := upd_same
          generalize upd H2 e2 (.lst [V.int 2147483629, V.int 2147483647, V.int 2147483587, V.int 2147483563, V.int 2147483579]) = H3 at s3 r5 r6 r7 ⊢
          obtain ⟨pr, ep, hp0, hp1⟩ := primes_at (t % 5) (Int.emod_nonneg _ (by decide)) (Int.emod_lt_of_pos _ (by decide))
          obtain ⟨qr, eq, hq0, hq1⟩ := primes_at ((t + 2) % 5) (Int.emod_nonneg _ (by decide)) (Int.emod_lt_of_pos _ (by decide))
          have ht1 : -(2 ^ 64) < t := by omega
          have ht2 : t < 2 ^ 64 := by omega
          refine ⟨_, rfl, _, rfl, .inl ⟨_, rfl, _, _, rfl, rfl, (show (0 : Int) < 5 by decide), e2, _, _, _, rfl, rfl, SqL.of r7, ep, ?_⟩⟩
          refine ⟨_, rfl, .inl ⟨_, rfl, _, rfl, _, _, rfl, rfl, hp0, _, _, rfl, rfl, .inr ⟨by decide, by decide⟩, _, rfl, _, rfl, _, _, rfl, rfl, .inl ⟨by decide, by decide⟩, _, _, rfl, rfl, _, _, rfl, rfl, .inl ⟨ht1, ht2⟩, _, _, rfl, rfl, _, _, rfl, rfl, .inl ⟨_, rfl, _, rfl, _, _, rfl, rfl, hp0, ?_⟩⟩⟩
          refine ⟨_, rfl, _, rfl, _, _, rfl, rfl, _, _, rfl, rfl, .inl (mod_small hp0 hp1), .inl ⟨_, rfl, _, rfl, _, rfl, _, _, rfl, rfl, .inl ⟨_, rfl, _, _, rfl, rfl, (show (0 : Int) < 5 by decide), e2, _, _, _, rfl, rfl, SqL.of r7, eq, _, _, rfl, rfl, hq0, ?_⟩⟩⟩
          refine ⟨_, rfl, _, rfl, _, _, rfl, rfl, .inl (mod_small hq0 hq1), _, rfl, _, _, rfl, rfl, .inl ⟨by decide, by decide⟩, _, _, rfl, rfl, _, rfl, _, _, rfl, rfl, .inl ⟨_, rfl, _, _, rfl, rfl, (show (0 : Int) < 2147483549 by decide), _, _, rfl, rfl, ⟨by decide, by decide⟩, .inl ⟨_, rfl, _, rfl, _, _, rfl, rfl, h0, ?_⟩⟩⟩
          exact k _ _ (Int.emod_nonneg _ (by omega)) (Int.emod_lt_of_pos _ h0) s3 ⟨cells, t + 1, l, r5, r6, q3, by omega, by omega, q6⟩
        · refine ⟨_, rfl, _, rfl, _, _, rfl, rfl, ⟨by decide, by decide, by decide⟩, _, _, rfl, rfl, _, rfl, ?_⟩
          refine ite2 (fun hb => ?_) (fun _ => hN)
          have hb2 := of_decide_eq_true hb
          refine ⟨_, rfl, _, rfl, _, _, rfl, rfl, ⟨by decide, by decide, by decide⟩, _, _, rfl, rfl, _, rfl, _, _, rfl, rfl, ⟨h0, by omega⟩, _, rfl, p, _, rfl, DPut.k (k := kL) r3 (pen_len _ _ _), ?_⟩
          rw [put_left]
          refine ⟨_, rfl, _, rfl, _, _, rfl, rfl, ⟨by decide, by decide, by decide⟩, _, _, rfl, rfl, .inl ⟨_, rfl, _, rfl, _, _, rfl, rfl, h0, ?_⟩⟩
          exact k _ _ (Int.emod_nonneg _ (by omega)) (Int.emod_lt_of_pos _ h0) (s2.trans (sm_pen r3)) ⟨cells, t + 1, _, upd_same, by rw [upd_ne ncp]; exact r4, q3, by omega, by omega, Int.ediv_nonneg (Int.sub_nonneg_of_le hb2) (by omega)⟩
      · refine ⟨_, rfl, _, rfl, p, _, rfl, dget_some (k := kC) r3 (pen_cells c _ l), c, _, rfl, .inl (SqL.of r4), _, _, rfl, rfl, _, rfl, ?_⟩
        refine ite_next ?_ (fun hN _ => ?_)
        · refine ⟨by decide, fun e2 he2 => ?_⟩
          have s3 : Sb p H (upd H2 e2 (.lst [V.int 2147483629, V.int 2147483647, V.int 2147483587, V.int 2147483563, V.int 2147483579])) := s2.trans (.of (same_new he2))
          have r5 := same_new (o := HO.lst [V.int 2147483629, V.int 2147483647, V.int 2147483587, V.int 2147483563, V.int 2147483579]) he2 _ _ r3
          have r6 := same_new (o := HO.lst [V.int 2147483629, V.int 2147483647, V.int 2147483587, V.int 2147483563, V.int 2147483579]) he2 _ _ r4
          have r7 : (upd H2 e2 (.lst [V.int 2147483629, V.int 2147483647, V.int 2147483587, V.int 2147483563, V.int 2147483579])) e2 = some (.lst [V.int 2147483629, V.int 2147483647, V.int 2147483587, V.int 2147483563, V.int 2147483579]) := upd_same
          generalize upd H2 e2 (.lst [V.int 2147483629, V.int 2147483647, V.int 2147483587, V.int 2147483563, V.int 2147483579]) = H3 at s3 r5 r6 r7 ⊢
          obtain ⟨pr, ep, hp0, hp1⟩ := primes_at (t % 5) (Int.emod_nonneg _ (by decide)) (Int.emod_lt_of_pos _ (by decide))
          obtain ⟨qr, eq, hq0, hq1⟩ := primes_at ((t + 2) % 5) (Int.emod_nonneg _ (by decide)) (Int.emod_lt_of_pos _ (by decide))
          have ht1 : -(2 ^ 64) < t := by omega
          have ht2 : t < 2 ^ 64 := by omega
          refine ⟨_, rfl, _, rfl, .inl ⟨_, rfl, _, _, rfl, rfl, (show (0 : Int) < 5 by decide), e2, _, _, _, rfl, rfl, SqL.of r7, ep, ?_⟩⟩
          refine ⟨_, rfl, .inl ⟨_, rfl, _, rfl, _, _, rfl, rfl, hp0, _, _, rfl, rfl, .inr ⟨by decide, by decide⟩, _, rfl, _, rfl, _, _, rfl, rfl, .inl ⟨by decide, by decide⟩, _, _, rfl, rfl, _, _, rfl, rfl, .inl ⟨ht1, ht2⟩, _, _, rfl, rfl, _, _, rfl, rfl, .inl ⟨_, rfl, _, rfl, _, _, rfl, rfl, hp0, ?_⟩⟩⟩
          refine ⟨_, rfl, _, rfl, _, _, rfl, rfl, _, _, rfl, rfl, .inl (mod_small hp0 hp1), .inl ⟨_, rfl, _, rfl, _, rfl, _, _, rfl, rfl, .inl ⟨_, rfl, _, _, rfl, rfl, (show (0 : Int) < 5 by decide), e2, _, _, _, rfl, rfl, SqL.of r7, eq, _, _, rfl, rfl, hq0, ?_⟩⟩⟩
          refine ⟨_, rfl, _, rfl, _, _, rfl, rfl, .inl (mod_small hq0 hq1), _, rfl, _, _, rfl, rfl, .inl ⟨by decide, by decide⟩, _, _, rfl, rfl, _, rfl, _, _, rfl, rfl, .inl ⟨_, rfl, _, _, rfl, rfl, (show (0 : Int) < 2147483549 by decide), _, _, rfl, rfl, ⟨by decide, by decide⟩, .inl ⟨_, rfl, _, rfl, _, _, rfl, rfl, h0, ?_⟩⟩⟩
          exact k _ _ (Int.emod_nonneg _ (by omega)) (Int.emod_lt_of_pos _ h0) s3 ⟨cells, t + 1, l, r5, r6, q3, by omega, by omega, q6⟩
        · refine ⟨_, rfl, _, rfl, _, _, rfl, rfl, ⟨by decide, by decide, by decide⟩, _, _, rfl, rfl, _, rfl, ?_⟩
          refine ite2 (fun hb => ?_) (fun _ => hN)
          have hb2 := of_decide_eq_true hb
          refine ⟨_, rfl, _, rfl, _, _, rfl, rfl, ⟨by decide, by decide, by decide⟩, _, _, rfl, rfl, _, rfl, _, _, rfl, rfl, ⟨h0, by omega⟩, _, rfl, p, _, rfl, DPut.k (k := kL) r3 (pen_len _ _ _), ?_⟩
          rw [put_left]
          refine ⟨_, rfl, _, rfl, _, _, rfl, rfl, ⟨by decide, by decide, by decide⟩, _, _, rfl, rfl, .inl ⟨_, rfl, _, rfl, _, _, rfl, rfl, h0, ?_⟩⟩
          exact k _ _ (Int.emod_nonneg _ (by omega)) (Int.emod_lt_of_pos _ h0) (s2.trans (sm_pen r3)) ⟨cells, t + 1, _, upd_same, by rw [upd_ne ncp]; exact r4, q3, by omega, by omega, Int.ediv_nonneg (Int.sub_nonneg_of_le hb2) (by omega)⟩
theorem ok__law_pen (A : All P K mg cs) : FnOk P w K mg base (L2.CX P w) 1 A.a__law_pen A.d__law_pen p__law_pen (spM true 1 (m__law_pen K)) := (FnOk.calm (ok_pen0 A.F__law_pen ⟨A.b_len, A.b_list, A.b_int, A.b_abs⟩)).imp fun _ _ _ _ => pen_sp
theorem ok__law_draw (A : All P K mg cs) : FnOk P w K mg base (L2.CX P w) 1 A.a__law_draw A.d__law_draw p__law_draw (spM true 2 m__law_draw) := (FnOk.calm (ok_draw0 A.F__law_draw ⟨A.b_len, A.b_list, A.b_int, A.b_abs⟩)).imp fun _ _ _ _ => draw_sp
end
end Q
namespace Q
open PySem L2 PySem.Spec PyProof.Rows NdefX LamX
section
variable {P : Program} {w : World} {K : PySem.W.Frag} {mg : Str → Option Value} {base : Heap} {cs : Cs}
/-! InvalidTable.__init__ -/
theorem ok_InvalidTable___init__ (A : All P K mg cs) : FnOk P w K mg base (L2.CX P w) 1 A.a_InvalidTable___init__ A.d_InvalidTable___init__ p_InvalidTable___init__ (spE cs.InvalidTable ["argument"]) :=
  fnE A.F_InvalidTable___init__ sc_InvalidTable___init__ (fun vs H Q E ⟨a, ws, e, l, _⟩ => by subst e; exact congrArg Nat.succ l) fun A' outer s H vs Q E hr h => ⟨_, psat_supE A.e_InvalidTable.T (supEAt A.F_InvalidTable___init__ A.e_InvalidTable.S ⟨_, rfl, rfl⟩ rfl rfl rfl rfl rfl) (pa_cons (pv 1) pa_nil) (PSat.cons (ps_setE (pv 0) (pv 1)) (PSat.of pss_nil)) rfl rfl, spE1_go h A.e_InvalidTable.T (A.e_InvalidTable.tk _ (by decide))⟩
/-! InvalidRow.__init__ -/
theorem ok_InvalidRow___init__ (A : All P K mg cs) : FnOk P w K mg base (L2.CX P w) 1 A.a_InvalidRow___init__ A.d_InvalidRow___init__ p_InvalidRow___init__ (spE cs.InvalidRow ["value"]) :=
  fnE A.F_InvalidRow___init__ sc_InvalidRow___init__ (fun vs H Q E ⟨a, ws, e, l, _⟩ => by subst e; exact congrArg Nat.succ l) fun A' outer s H vs Q E hr h => ⟨_, psat_supE A.e_InvalidRow.T (supEAt A.F_InvalidRow___init__ A.e_InvalidRow.S ⟨_, rfl, rfl⟩ rfl rfl rfl rfl rfl) (pa_cons (pv 1) pa_nil) (PSat.cons (ps_setE (pv 0) (pv 1)) (PSat.of pss_nil)) rfl rfl, spE1_go h A.e_InvalidRow.T (A.e_InvalidRow.tk _ (by decide))⟩
/-! InvalidRule.__init__ -/
theorem ok_InvalidRule___init__ (A : All P K mg cs) : FnOk P w K mg base (L2.CX P w) 1 A.a_InvalidRule___init__ A.d_InvalidRule___init__ p_InvalidRule___init__ (spE cs.InvalidRule ["argument"]) :=
  fnE A.F_InvalidRule___init__ sc_InvalidRule___init__ (fun vs H Q E ⟨a, ws, e, l, _⟩ => by subst e; exact congrArg Nat.succ l) fun A' outer s H vs Q E hr h => ⟨_, psat_supE A.e_InvalidRule.T (supEAt A.F_InvalidRule___init__ A.e_InvalidRule.S ⟨_, rfl, rfl⟩ rfl rfl rfl rfl rfl) (pa_cons (pv 1) pa_nil) (PSat.cons (ps_setE (pv 0) (pv 1)) (PSat.of pss_nil)) rfl rfl, spE1_go h A.e_InvalidRule.T (A.e_InvalidRule.tk _ (by decide))⟩
/-! Misfit.__init__ -/
theorem ok_Misfit___init__ (A : All P K mg cs) : FnOk P w K mg base (L2.CX P w) 1 A.a_Misfit___init__ A.d_Misfit___init__ p_Misfit___init__ (spE cs.Misfit ["index"]) :=
  fnE A.F_Misfit___init__ sc_Misfit___init__ (fun vs H Q E ⟨a, ws, e, l, _⟩ => by subst e; exact congrArg Nat.succ l) fun A' outer s H vs Q E hr h => ⟨_, psat_supE A.e_Misfit.T (supEAt A.F_Misfit___init__ A.e_Misfit.S ⟨_, rfl, rfl⟩ rfl rfl rfl rfl rfl) (pa_cons (pv 1) pa_nil) (PSat.cons (ps_setE (pv 0) (pv 1)) (PSat.of pss_nil)) rfl rfl, spE1_go h A.e_Misfit.T (A.e_Misfit.tk _ (by decide))⟩
/-! Circle.__init__ -/
theorem ok_Circle___init__ (A : All P K mg cs) : FnOk P w K mg base (L2.CX P w) 1 A.a_Circle___init__ A.d_Circle___init__ p_Circle___init__ (spE cs.Circle ["value"]) :=
  fnE A.F_Circle___init__ sc_Circle___init__ (fun vs H Q E ⟨a, ws, e, l, _⟩ => by subst e; exact congrArg Nat.succ l) fun A' outer s H vs Q E hr h => ⟨_, psat_supE A.e_Circle.T (supEAt A.F_Circle___init__ A.e_Circle.S ⟨_, rfl, rfl⟩ rfl rfl rfl rfl rfl) (pa_cons (pv 1) pa_nil) (PSat.cons (ps_setE (pv 0) (pv 1)) (PSat.of pss_nil)) rfl rfl, spE1_go h A.e_Circle.T (A.e_Circle.tk _ (by decide))⟩
/-! InvalidFact.__init__ -/
theorem ok_InvalidFact___init__ (A : All P K mg cs) : FnOk P w K mg base (L2.CX P w) 1 A.a_InvalidFact___init__ A.d_InvalidFact___init__ p_InvalidFact___init__ (spE cs.InvalidFact ["index"]) :=
  fnE A.F_InvalidFact___init__ sc_InvalidFact___init__ (fun vs H Q E ⟨a, ws, e, l, _⟩ => by subst e; exact congrArg Nat.succ l) fun A' outer s H vs Q E hr h => ⟨_, psat_supE A.e_InvalidFact.T (supEAt A.F_InvalidFact___init__ A.e_InvalidFact.S ⟨_, rfl, rfl⟩ rfl rfl rfl rfl rfl) (pa_cons (pv 1) pa_nil) (PSat.cons (ps_setE (pv 0) (pv 1)) (PSat.of pss_nil)) rfl rfl, spE1_go h A.e_InvalidFact.T (A.e_InvalidFact.tk _ (by decide))⟩
/-! InvalidChange.__init__ -/
theorem ok_InvalidChange___init__ (A : All P K mg cs) : FnOk P w K mg base (L2.CX P w) 1 A.a_InvalidChange___init__ A.d_InvalidChange___init__ p_InvalidChange___init__ (spE cs.InvalidChange ["index"]) :=
  fnE A.F_InvalidChange___init__ sc_InvalidChange___init__ (fun vs H Q E ⟨a, ws, e, l, _⟩ => by subst e; exact congrArg Nat.succ l) fun A' outer s H vs Q E hr h => ⟨_, psat_supE A.e_InvalidChange.T (supEAt A.F_InvalidChange___init__ A.e_InvalidChange.S ⟨_, rfl, rfl⟩ rfl rfl rfl rfl rfl) (pa_cons (pv 1) pa_nil) (PSat.cons (ps_setE (pv 0) (pv 1)) (PSat.of pss_nil)) rfl rfl, spE1_go h A.e_InvalidChange.T (A.e_InvalidChange.tk _ (by decide))⟩
/-! InvalidAnswer.__init__ -/
theorem ok_InvalidAnswer___init__ (A : All P K mg cs) : FnOk P w K mg base (L2.CX P w) 1 A.a_InvalidAnswer___init__ A.d_InvalidAnswer___init__ p_InvalidAnswer___init__ (spE cs.InvalidAnswer ["value"]) :=
  fnE A.F_InvalidAnswer___init__ sc_InvalidAnswer___init__ (fun vs H Q E ⟨a, ws, e, l, _⟩ => by subst e; exact congrArg Nat.succ l) fun A' outer s H vs Q E hr h => ⟨_, psat_supE A.e_InvalidAnswer.T (supEAt A.F_InvalidAnswer___init__ A.e_InvalidAnswer.S ⟨_, rfl, rfl⟩ rfl rfl rfl rfl rfl) (pa_cons (pv 1) pa_nil) (PSat.cons (ps_setE (pv 0) (pv 1)) (PSat.of pss_nil)) rfl rfl, spE1_go h A.e_InvalidAnswer.T (A.e_InvalidAnswer.tk _ (by decide))⟩
/-! InvalidTemplate.__init__ -/
theorem ok_InvalidTemplate___init__ (A : All P K mg cs) : FnOk P w K mg base (L2.CX P w) 1 A.a_InvalidTemplate___init__ A.d_InvalidTemplate___init__ p_InvalidTemplate___init__ (spE cs.InvalidTemplate ["index"]) :=
  fnE A.F_InvalidTemplate___init__ sc_InvalidTemplate___init__ (fun vs H Q E ⟨a, ws, e, l, _⟩ => by subst e; exact congrArg Nat.succ l) fun A' outer s H vs Q E hr h => ⟨_, psat_supE A.e_InvalidTemplate.T (supEAt A.F_InvalidTemplate___init__ A.e_InvalidTemplate.S ⟨_, rfl, rfl⟩ rfl rfl rfl rfl rfl) (pa_cons (pv 1) pa_nil) (PSat.cons (ps_setE (pv 0) (pv 1)) (PSat.of pss_nil)) rfl rfl, spE1_go h A.e_InvalidTemplate.T (A.e_InvalidTemplate.tk _ (by decide))⟩
/-! InvalidNames.__init__ -/
theorem ok_InvalidNames___init__ (A : All P K mg cs) : FnOk P w K mg base (L2.CX P w) 1 A.a_InvalidNames___init__ A.d_InvalidNames___init__ p_InvalidNames___init__ (spE cs.InvalidNames ["value"]) :=
  fnE A.F_InvalidNames___init__ sc_InvalidNames___init__ (fun vs H Q E ⟨a, ws, e, l, _⟩ => by subst e; exact congrArg Nat.succ l) fun A' outer s H vs Q E hr h => ⟨_, psat_supE A.e_InvalidNames.T (supEAt A.F_InvalidNames___init__ A.e_InvalidNames.S ⟨_, rfl, rfl⟩ rfl rfl rfl rfl rfl) (pa_cons (pv 1) pa_nil) (PSat.cons (ps_setE (pv 0) (pv 1)) (PSat.of pss_nil)) rfl rfl, spE1_go h A.e_InvalidNames.T (A.e_InvalidNames.tk _ (by decide))⟩
/-! InvalidLimit.__init__ -/
theorem ok_InvalidLimit___init__ (A : All P K mg cs) : FnOk P w K mg base (L2.CX P w) 1 A.a_InvalidLimit___init__ A.d_InvalidLimit___init__ p_InvalidLimit___init__ (spE cs.InvalidLimit ["value"]) :=
  fnE A.F_InvalidLimit___init__ sc_InvalidLimit___init__ (fun vs H Q E ⟨a, ws, e, l, _⟩ => by subst e; exact congrArg Nat.succ l) fun A' outer s H vs Q E hr h => ⟨_, psat_supE A.e_InvalidLimit.T (supEAt A.F_InvalidLimit___init__ A.e_InvalidLimit.S ⟨_, rfl, rfl⟩ rfl rfl rfl rfl rfl) (pa_cons (pv 1) pa_nil) (PSat.cons (ps_setE (pv 0) (pv 1)) (PSat.of pss_nil)) rfl rfl, spE1_go h A.e_InvalidLimit.T (A.e_InvalidLimit.tk _ (by decide))⟩
/-! Unreadable.__init__ -/
theorem ok_Unreadable___init__ (A : All P K mg cs) : FnOk P w K mg base (L2.CX P w) 1 A.a_Unreadable___init__ A.d_Unreadable___init__ p_Unreadable___init__ (spE cs.Unreadable ["index"]) :=
  fnE A.F_Unreadable___init__ sc_Unreadable___init__ (fun vs H Q E ⟨a, ws, e, l, _⟩ => by subst e; exact congrArg Nat.succ l) fun A' outer s H vs Q E hr h => ⟨_, psat_supE A.e_Unreadable.T (supEAt A.F_Unreadable___init__ A.e_Unreadable.S ⟨_, rfl, rfl⟩ rfl rfl rfl rfl rfl) (pa_cons (pv 1) pa_nil) (PSat.cons (ps_setE (pv 0) (pv 1)) (PSat.of pss_nil)) rfl rfl, spE1_go h A.e_Unreadable.T (A.e_Unreadable.tk _ (by decide))⟩
/-! UnknownTable.__init__ -/
theorem ok_UnknownTable___init__ (A : All P K mg cs) : FnOk P w K mg base (L2.CX P w) 1 A.a_UnknownTable___init__ A.d_UnknownTable___init__ p_UnknownTable___init__ (spE cs.UnknownTable ["value"]) :=
  fnE A.F_UnknownTable___init__ sc_UnknownTable___init__ (fun vs H Q E ⟨a, ws, e, l, _⟩ => by subst e; exact congrArg Nat.succ l) fun A' outer s H vs Q E hr h => ⟨_, psat_supE A.e_UnknownTable.T (supEAt A.F_UnknownTable___init__ A.e_UnknownTable.S ⟨_, rfl, rfl⟩ rfl rfl rfl rfl rfl) (pa_cons (pv 1) pa_nil) (PSat.cons (ps_setE (pv 0) (pv 1)) (PSat.of pss_nil)) rfl rfl, spE1_go h A.e_UnknownTable.T (A.e_UnknownTable.tk _ (by decide))⟩
/-! UnknownColumn.__init__ -/
theorem ok_UnknownColumn___init__ (A : All P K mg cs) : FnOk P w K mg base (L2.CX P w) 1 A.a_UnknownColumn___init__ A.d_UnknownColumn___init__ p_UnknownColumn___init__ (spE cs.UnknownColumn ["value"]) :=
  fnE A.F_UnknownColumn___init__ sc_UnknownColumn___init__ (fun vs H Q E ⟨a, ws, e, l, _⟩ => by subst e; exact congrArg Nat.succ l) fun A' outer s H vs Q E hr h => ⟨_, psat_supE A.e_UnknownColumn.T (supEAt A.F_UnknownColumn___init__ A.e_UnknownColumn.S ⟨_, rfl, rfl⟩ rfl rfl rfl rfl rfl) (pa_cons (pv 1) pa_nil) (PSat.cons (ps_setE (pv 0) (pv 1)) (PSat.of pss_nil)) rfl rfl, spE1_go h A.e_UnknownColumn.T (A.e_UnknownColumn.tk _ (by decide))⟩
/-! OutOfRange.__init__ -/
theorem ok_OutOfRange___init__ (A : All P K mg cs) : FnOk P w K mg base (L2.CX P w) 1 A.a_OutOfRange___init__ A.d_OutOfRange___init__ p_OutOfRange___init__ (spE cs.OutOfRange ["value"]) :=
  fnE A.F_OutOfRange___init__ sc_OutOfRange___init__ (fun vs H Q E ⟨a, ws, e, l, _⟩ => by subst e; exact congrArg Nat.succ l) fun A' outer s H vs Q E hr h => ⟨_, psat_supE A.e_OutOfRange.T (supEAt A.F_OutOfRange___init__ A.e_OutOfRange.S ⟨_, rfl, rfl⟩ rfl rfl rfl rfl rfl) (pa_cons (pv 1) pa_nil) (PSat.cons (ps_setE (pv 0) (pv 1)) (PSat.of pss_nil)) rfl rfl, spE1_go h A.e_OutOfRange.T (A.e_OutOfRange.tk _ (by decide))⟩
/-! NoAnswer.__init__ -/
theorem ok_NoAnswer___init__ (A : All P K mg cs) : FnOk P w K mg base (L2.CX P w) 1 A.a_NoAnswer___init__ A.d_NoAnswer___init__ p_NoAnswer___init__ (spE cs.NoAnswer ["value"]) :=
  fnE A.F_NoAnswer___init__ sc_NoAnswer___init__ (fun vs H Q E ⟨a, ws, e, l, _⟩ => by subst e; exact congrArg Nat.succ l) fun A' outer s H vs Q E hr h => ⟨_, psat_supE A.e_NoAnswer.T (supEAt A.F_NoAnswer___init__ A.e_NoAnswer.S ⟨_, rfl, rfl⟩ rfl rfl rfl rfl rfl) (pa_cons (pv 1) pa_nil) (PSat.cons (ps_setE (pv 0) (pv 1)) (PSat.of pss_nil)) rfl rfl, spE1_go h A.e_NoAnswer.T (A.e_NoAnswer.tk _ (by decide))⟩
/-! NoCase.__init__ -/
theorem ok_NoCase___init__ (A : All P K mg cs) : FnOk P w K mg base (L2.CX P w) 1 A.a_NoCase___init__ A.d_NoCase___init__ p_NoCase___init__ (spE cs.NoCase ["case"]) :=
  fnE A.F_NoCase___init__ sc_NoCase___init__ (fun vs H Q E ⟨a, ws, e, l, _⟩ => by subst e; exact congrArg Nat.succ l) fun A' outer s H vs Q E hr h => ⟨_, psat_supE A.e_NoCase.T (supEAt A.F_NoCase___init__ A.e_NoCase.S ⟨_, rfl, rfl⟩ rfl rfl rfl rfl rfl) (pa_cons (pv 1) pa_nil) (PSat.cons (ps_setE (pv 0) (pv 1)) (PSat.of pss_nil)) rfl rfl, spE1_go h A.e_NoCase.T (A.e_NoCase.tk _ (by decide))⟩
/-! NoBranch.__init__ -/
theorem ok_NoBranch___init__ (A : All P K mg cs) : FnOk P w K mg base (L2.CX P w) 1 A.a_NoBranch___init__ A.d_NoBranch___init__ p_NoBranch___init__ (spE cs.NoBranch ["value"]) :=
  fnE A.F_NoBranch___init__ sc_NoBranch___init__ (fun vs H Q E ⟨a, ws, e, l, _⟩ => by subst e; exact congrArg Nat.succ l) fun A' outer s H vs Q E hr h => ⟨_, psat_supE A.e_NoBranch.T (supEAt A.F_NoBranch___init__ A.e_NoBranch.S ⟨_, rfl, rfl⟩ rfl rfl rfl rfl rfl) (pa_cons (pv 1) pa_nil) (PSat.cons (ps_setE (pv 0) (pv 1)) (PSat.of pss_nil)) rfl rfl, spE1_go h A.e_NoBranch.T (A.e_NoBranch.tk _ (by decide))⟩
/-! TooMany.__init__ -/
theorem ok_TooMany___init__ (A : All P K mg cs) : FnOk P w K mg base (L2.CX P w) 1 A.a_TooMany___init__ A.d_TooMany___init__ p_TooMany___init__ (spE cs.TooMany ["limit"]) :=
  fnE A.F_TooMany___init__ sc_TooMany___init__ (fun vs H Q E ⟨a, ws, e, l, _⟩ => by subst e; exact congrArg Nat.succ l) fun A' outer s H vs Q E hr h => ⟨_, psat_supE A.e_TooMany.T (supEAt A.F_TooMany___init__ A.e_TooMany.S ⟨_, rfl, rfl⟩ rfl rfl rfl rfl rfl) (pa_cons (pv 1) pa_nil) (PSat.cons (ps_setE (pv 0) (pv 1)) (PSat.of pss_nil)) rfl rfl, spE1_go h A.e_TooMany.T (A.e_TooMany.tk _ (by decide))⟩
/-! TooDear.__init__ -/
theorem ok_TooDear___init__ (A : All P K mg cs) : FnOk P w K mg base (L2.CX P w) 1 A.a_TooDear___init__ A.d_TooDear___init__ p_TooDear___init__ (spE cs.TooDear ["number"]) :=
  fnE A.F_TooDear___init__ sc_TooDear___init__ (fun vs H Q E ⟨a, ws, e, l, _⟩ => by subst e; exact congrArg Nat.succ l) fun A' outer s H vs Q E hr h => ⟨_, psat_supE A.e_TooDear.T (supEAt A.F_TooDear___init__ A.e_TooDear.S ⟨_, rfl, rfl⟩ rfl rfl rfl rfl rfl) (pa_cons (pv 1) pa_nil) (PSat.cons (ps_setE (pv 0) (pv 1)) (PSat.of pss_nil)) rfl rfl, spE1_go h A.e_TooDear.T (A.e_TooDear.tk _ (by decide))⟩
/-! Broken.__init__ -/
theorem ok_Broken___init__ (A : All P K mg cs) : FnOk P w K mg base (L2.CX P w) 1 A.a_Broken___init__ A.d_Broken___init__ p_Broken___init__ (spE cs.Broken ["index", "spot"]) :=
  fnE A.F_Broken___init__ sc_Broken___init__ (fun vs H Q E ⟨a, ws, e, l, _⟩ => by subst e; exact congrArg Nat.succ l) fun A' outer s H vs Q E hr h => ⟨_, psat_supE A.e_Broken.T (supEAt A.F_Broken___init__ A.e_Broken.S ⟨_, rfl, rfl⟩ rfl rfl rfl rfl rfl) (pa_cons (pv 1) (pa_cons (pv 2) pa_nil)) (PSat.cons (ps_setE (pv 0) (pv 1)) (PSat.cons (ps_setE (pv 0) (pv 2)) (PSat.of pss_nil))) rfl rfl, spE2_go h A.e_Broken.T (A.e_Broken.tk _ (by decide)) (A.e_Broken.tk _ (by decide))⟩
/-! Unfit.__init__ -/
theorem ok_Unfit___init__ (A : All P K mg cs) : FnOk P w K mg base (L2.CX P w) 1 A.a_Unfit___init__ A.d_Unfit___init__ p_Unfit___init__ (spE cs.Unfit ["index"]) :=
  fnE A.F_Unfit___init__ sc_Unfit___init__ (fun vs H Q E ⟨a, ws, e, l, _⟩ => by subst e; exact congrArg Nat.succ l) fun A' outer s H vs Q E hr h => ⟨_, psat_supE A.e_Unfit.T (supEAt A.F_Unfit___init__ A.e_Unfit.S ⟨_, rfl, rfl⟩ rfl rfl rfl rfl rfl) (pa_cons (pv 1) pa_nil) (PSat.cons (ps_setE (pv 0) (pv 1)) (PSat.of pss_nil)) rfl rfl, spE1_go h A.e_Unfit.T (A.e_Unfit.tk _ (by decide))⟩
/-! Refused.__init__ -/
theorem ok_Refused___init__ (A : All P K mg cs) : FnOk P w K mg base (L2.CX P w) 1 A.a_Refused___init__ A.d_Refused___init__ p_Refused___init__ (spE cs.Refused ["change"]) :=
  fnE A.F_Refused___init__ sc_Refused___init__ (fun vs H Q E ⟨a, ws, e, l, _⟩ => by subst e; exact congrArg Nat.succ l) fun A' outer s H vs Q E hr h => ⟨_, psat_supE A.e_Refused.T (supEAt A.F_Refused___init__ A.e_Refused.S ⟨_, rfl, rfl⟩ rfl rfl rfl rfl rfl) (pa_cons (pv 1) pa_nil) (PSat.cons (ps_setE (pv 0) (pv 1)) (PSat.of pss_nil)) rfl rfl, spE1_go h A.e_Refused.T (A.e_Refused.tk _ (by decide))⟩
/-! LookFailed.__init__ -/
theorem ok_LookFailed___init__ (A : All P K mg cs) : FnOk P w K mg base (L2.CX P w) 1 A.a_LookFailed___init__ A.d_LookFailed___init__ p_LookFailed___init__ (spE cs.LookFailed ["number"]) :=
  fnE A.F_LookFailed___init__ sc_LookFailed___init__ (fun vs H Q E ⟨a, ws, e, l, _⟩ => by subst e; exact congrArg Nat.succ l) fun A' outer s H vs Q E hr h => ⟨_, psat_supE A.e_LookFailed.T (supEAt A.F_LookFailed___init__ A.e_LookFailed.S ⟨_, rfl, rfl⟩ rfl rfl rfl rfl rfl) (pa_cons (pv 1) pa_nil) (PSat.cons (ps_setE (pv 0) (pv 1)) (PSat.of pss_nil)) rfl rfl, spE1_go h A.e_LookFailed.T (A.e_LookFailed.tk _ (by decide))⟩
/-! NoLook.__init__ -/
theorem ok_NoLook___init__ (A : All P K mg cs) : FnOk P w K mg base (L2.CX P w) 1 A.a_NoLook___init__ A.d_NoLook___init__ p_NoLook___init__ (spE cs.NoLook ["value"]) :=
  fnE A.F_NoLook___init__ sc_NoLook___init__ (fun vs H Q E ⟨a, ws, e, l, _⟩ => by subst e; exact congrArg Nat.succ l) fun A' outer s H vs Q E hr h => ⟨_, psat_supE A.e_NoLook.T (supEAt A.F_NoLook___init__ A.e_NoLook.S ⟨_, rfl, rfl⟩ rfl rfl rfl rfl rfl) (pa_cons (pv 1) pa_nil) (PSat.cons (ps_setE (pv 0) (pv 1)) (PSat.of pss_nil)) rfl rfl, spE1_go h A.e_NoLook.T (A.e_NoLook.tk _ (by decide))⟩
end
end Q
namespace Q
open PySem L2 PySem.Spec PyProof.Rows NdefX LamX
section
variable {P : Program} {w : World} {K : PySem.W.Frag} {mg : Str → Option Value} {base : Heap} {cs : Cs}
/-! _law_pick -/
def b__law_pick (K : PySem.W.Frag) (cs : Cs) : Sx :=
    (sRet (xU (xF (xOp ixD (xV 1) (xF (xE true 2 (m__law_draw) (xCons (xV 0) (xCons (xF (xB lenG (xCons (xV 1) xNil))) xNil))))))))
def m__law_pick (K : PySem.W.Frag) (cs : Cs) : MF := mk true 2 (b__law_pick K cs)
theorem ok__law_pick (A : All P K mg cs) : FnOk P w K mg base (L2.CX P w) 2 A.a__law_pick A.d__law_pick p__law_pick (spM true 2 (m__law_pick K cs)) := by
  refine fnM A.F__law_pick sc__law_pick (by decide) fun cdv A' outer s H E hr => ?_
  have hu := hu_of hr
  have hu0 := hr.units0
  have hu64 := hr.units
  have hu65 := hr.u65
  exact (pxb_one (pxs_ret (po_U (px_F (po_2 (g_ix K) (fun h1 h2 => pe_ix (ixA K) h1 h2 (fun _ _ => rfl)) (px_var (pv 1)) (px_F (po_E (call_sp (ok__law_draw A) (hr.mono (by decide)) rfl A.D__law_draw.m A.D__law_draw.k A.D__law_draw.b) (pxa_cons (px_var (pv 0)) (pxa_cons (px_F (po_b (g_len K) (fun h => pe_callB (cLen K) (by rfl) A.b_len (by decide +kernel) h) (pxa_cons (px_var (pv 1)) pxa_nil))) pxa_nil)))))))))
/-! _law_any_value -/
def b__law_any_value (K : PySem.W.Frag) (cs : Cs) : Sx :=
    (sSeq (sSet 1 (xLst (xCons (xC .non) (xCons (xC (.bl true)) (xCons (xC (.bl false)) (xCons (xC (.int 0)) (xCons (xC (.int 1)) (xCons (xC (.int (-1))) (xCons (xF (xOp powG (xC (.int 10)) (xC (.int 59)))) (xCons (xC (.str "")) (xCons (xC (.str "a")) (xCons (xC (.str "A")) (xCons (xC (.str "a b")) (xCons (xC (.str "ab")) (xCons (xF (xTup xNil)) (xCons (xF (xTup (xCons (xC (.str "a")) xNil))) (xCons (xF (xLst (xCons (xC (.str "a")) (xCons (xC (.str "b")) xNil)))) (xCons (xF xNewK) (xCons (xF (xLst (xCons (xC (.int 1)) xNil))) xNil)))))))))))))))))))
    (sSeq (sSet 1 (xOp addG (xV 1) (xF (xLst (xCons (xF (xTup (xCons (xC (.str "a")) (xCons (xC (.str "b")) xNil)))) xNil)))))
    (sSeq (sSet 1 (xOp addG (xV 1) (xF (xLst (xCons (xF (xTup (xCons (xC (.str "a")) (xCons (xC (.int 1)) xNil)))) (xCons (xF (xDi false (xC (.str "a")) (xC (.str "b")))) (xCons (xF (xOp mulSG (xC (.str "a")) (xC (.int 8)))) (xCons (xF (xOp mulSG (xC (.str "a")) (xC (.int 9)))) (xCons (xF (xLst (xCons (xF (xLst (xCons (xC (.str "a")) xNil))) xNil))) (xCons (xF (xTup (xCons (xC (.int 0)) (xCons (xC (.int 1)) xNil)))) (xCons (xC (.str "aa")) (xCons (xF (xLst xNil)) (xCons (xF (xTup (xCons (xC (.str "a")) (xCons (xF (xTup (xCons (xC (.str "b")) (xCons (xC (.str "c")) xNil)))) xNil)))) (xCons (xC (.str "a1")) (xCons (xF (xLst (xCons (xC (.str "a")) xNil))) xNil)))))))))))))))
    (sRet (xU (xF (xE true 2 (m__law_pick K cs) (xCons (xV 0) (xCons (xF (xOp addG (xV 1) (xF (xLst (xCons (xF (xTup (xCons (xC .non) xNil))) (xCons (xF (xTup (xCons (xC (.str "a")) (xCons (xF (xLst (xCons (xC (.str "b")) (xCons (xC (.str "c")) xNil)))) xNil)))) (xCons (xC (.str "any")) xNil))))))) xNil)))))))))
def m__law_any_value (K : PySem.W.Frag) (cs : Cs) : MF := mk true 2 (b__law_any_value K cs)
theorem ok__law_any_value (A : All P K mg cs) : FnOk P w K mg base (L2.CX P w) 3 A.a__law_any_value A.d__law_any_value p__law_any_value (spM true 1 (m__law_any_value K cs)) := by
  refine fnM A.F__law_any_value sc__law_any_value (by decide) fun cdv A' outer s H E hr => ?_
  have hu := hu_of hr
  have hu0 := hr.units0
  have hu64 := hr.units
  have hu65 := hr.u65
  exact (pxb_cons (pxs_set (fun h => ps_set (i := 1) sc__law_any_value.nd rfl (Or.inl rfl) h) (po_lst (pxa_cons px_non (pxa_cons px_bl (pxa_cons px_bl (pxa_cons px_int (pxa_cons px_int (pxa_cons (px_C (pe_neg) fun _ _ _ => .int _) (pxa_cons (px_F (po_2 g_pow (fun h1 h2 => pe_op op_pow h1 h2) px_int px_int)) (pxa_cons px_str (pxa_cons px_str (pxa_cons px_str (pxa_cons px_str (pxa_cons px_str (pxa_cons (px_F (po_tup pxa_nil)) (pxa_cons (px_F (po_tup (pxa_cons px_str pxa_nil))) (pxa_cons (px_F (po_lst (pxa_cons px_str (pxa_cons px_str pxa_nil)))) (pxa_cons (px_F po_newK) (pxa_cons (px_F (po_lst (pxa_cons px_int pxa_nil))) pxa_nil)))))))))))))))))))
      (pxb_cons (pxs_set (fun h => ps_set (i := 1) sc__law_any_value.nd rfl (Or.inl rfl) h) (po_2 (g_add K) (fun h1 h2 => pe_op (op_addA K) h1 h2) (px_var (pv 1)) (px_F (po_lst (pxa_cons (px_F (po_tup (pxa_cons px_str (pxa_cons px_str pxa_nil)))) pxa_nil)))))
      (pxb_cons (pxs_set (fun h => ps_set (i := 1) sc__law_any_value.nd rfl (Or.inl rfl) h) (po_2 (g_add K) (fun h1 h2 => pe_op (op_addA K) h1 h2) (px_var (pv 1)) (px_F (po_lst (pxa_cons (px_F (po_tup (pxa_cons px_str (pxa_cons px_int pxa_nil)))) (pxa_cons (px_F (po_di (t := false) hu0 px_str px_str)) (pxa_cons (px_F (po_2 g_mulS (fun h1 h2 => pe_op op_mulS h1 h2) px_str px_int)) (pxa_cons (px_F (po_2 g_mulS (fun h1 h2 => pe_op op_mulS h1 h2) px_str px_int)) (pxa_cons (px_F (po_lst (pxa_cons (px_F (po_lst (pxa_cons px_str pxa_nil))) pxa_nil))) (pxa_cons (px_F (po_tup (pxa_cons px_int (pxa_cons px_int pxa_nil)))) (pxa_cons px_str (pxa_cons (px_F (po_lst pxa_nil)) (pxa_cons (px_F (po_tup (pxa_cons px_str (pxa_cons (px_F (po_tup (pxa_cons px_str (pxa_cons px_str pxa_nil)))) pxa_nil)))) (pxa_cons px_str (pxa_cons (px_F (po_lst (pxa_cons px_str pxa_nil))) pxa_nil)))))))))))))))
      (pxb_one (pxs_ret (po_U (px_F (po_E (call_sp (ok__law_pick A) (hr.mono (by decide)) rfl A.D__law_pick.m A.D__law_pick.k A.D__law_pick.b) (pxa_cons (px_var (pv 0)) (pxa_cons (px_F (po_2 (g_add K) (fun h1 h2 => pe_op (op_addA K) h1 h2) (px_var (pv 1)) (px_F (po_lst (pxa_cons (px_F (po_tup (pxa_cons px_non pxa_nil))) (pxa_cons (px_F (po_tup (pxa_cons px_str (pxa_cons (px_F (po_lst (pxa_cons px_str (pxa_cons px_str pxa_nil)))) pxa_nil)))) (pxa_cons px_str pxa_nil))))))) pxa_nil))))))))))
/-! _law_some_errors -/
def b__law_some_errors (K : PySem.W.Frag) (cs : Cs) : Sx :=
    (sSeq (sSetO 1 (xLst xNil))
    (sSeq (sSet 2 (xMkE cs.InvalidTable ["argument"] 1 id (xCons (xV 0) xNil)))
    (sSeq (sApp 1 (xF (xTup (xCons (xF (xMkE cs.InvalidTable ["argument"] 1 id (xCons (xV 0) xNil))) (xCons (xF (xUn (fdvG K "argument") (xV 2))) (xCons (xF (xUn (fdvG K "argument") (xF (xMkE cs.InvalidTable ["argument"] 1 id (xCons (xV 0) xNil))))) (xCons (xC (.str "value")) xNil)))))))
    (sSeq (sSet 2 (xMkE cs.InvalidRow ["value"] 1 id (xCons (xV 0) xNil)))
    (sSeq (sApp 1 (xF (xTup (xCons (xF (xMkE cs.InvalidRow ["value"] 1 id (xCons (xV 0) xNil))) (xCons (xF (xUn (fdvG K "value") (xV 2))) (xCons (xF (xUn (fdvG K "value") (xF (xMkE cs.InvalidRow ["value"] 1 id (xCons (xV 0) xNil))))) (xCons (xC (.str "value")) xNil)))))))
    (sSeq (sSet 2 (xMkE cs.InvalidRule ["argument"] 1 id (xCons (xV 0) xNil)))
    (sSeq (sApp 1 (xF (xTup (xCons (xF (xMkE cs.InvalidRule ["argument"] 1 id (xCons (xV 0) xNil))) (xCons (xF (xUn (fdvG K "argument") (xV 2))) (xCons (xF (xUn (fdvG K "argument") (xF (xMkE cs.InvalidRule ["argument"] 1 id (xCons (xV 0) xNil))))) (xCons (xC (.str "value")) xNil)))))))
    (sSeq (sApp 1 (xF (xTup (xCons (xF (xMkE cs.Misfit ["index"] 1 id (xCons (xV 0) xNil))) (xCons (xF (xUn (fdvG K "index") (xF (xMkE cs.Misfit ["index"] 1 id (xCons (xV 0) xNil))))) (xCons (xF (xUn (fdvG K "index") (xF (xMkE cs.Misfit ["index"] 1 id (xCons (xV 0) xNil))))) (xCons (xC (.str "value")) xNil)))))))
    (sSeq (sApp 1 (xF (xTup (xCons (xF (xMkE cs.Circle ["value"] 1 id (xCons (xV 0) xNil))) (xCons (xF (xUn (fdvG K "value") (xF (xMkE cs.Circle ["value"] 1 id (xCons (xV 0) xNil))))) (xCons (xF (xUn (fdvG K "value") (xF (xMkE cs.Circle ["value"] 1 id (xCons (xV 0) xNil))))) (xCons (xC (.str "value")) xNil)))))))
    (sSeq (sSet 2 (xMkE cs.InvalidFact ["index"] 1 id (xCons (xV 0) xNil)))
    (sSeq (sApp 1 (xF (xTup (xCons (xF (xMkE cs.InvalidFact ["index"] 1 id (xCons (xV 0) xNil))) (xCons (xF (xUn (fdvG K "index") (xV 2))) (xCons (xF (xUn (fdvG K "index") (xF (xMkE cs.InvalidFact ["index"] 1 id (xCons (xV 0) xNil))))) (xCons (xC (.str "value")) xNil)))))))
    (sSeq (sSet 2 (xMkE cs.InvalidChange ["index"] 1 id (xCons (xV 0) xNil)))
    (sSeq (sApp 1 (xF (xTup (xCons (xF (xMkE cs.InvalidChange ["index"] 1 id (xCons (xV 0) xNil))) (xCons (xF (xUn (fdvG K "index") (xV 2))) (xCons (xF (xUn (fdvG K "index") (xF (xMkE cs.InvalidChange ["index"] 1 id (xCons (xV 0) xNil))))) (xCons (xC (.str "value")) xNil)))))))
    (sSeq (sSet 2 (xMkE cs.InvalidAnswer ["value"] 1 id (xCons (xV 0) xNil)))
    (sSeq (sApp 1 (xF (xTup (xCons (xF (xMkE cs.InvalidAnswer ["value"] 1 id (xCons (xV 0) xNil))) (xCons (xF (xUn (fdvG K "value") (xV 2))) (xCons (xF (xUn (fdvG K "value") (xF (xMkE cs.InvalidAnswer ["value"] 1 id (xCons (xV 0) xNil))))) (xCons (xC (.str "value")) xNil)))))))
    (sSeq (sSet 2 (xMkE cs.InvalidTemplate ["index"] 1 id (xCons (xV 0) xNil)))
    (sSeq (sApp 1 (xF (xTup (xCons (xF (xMkE cs.InvalidTemplate ["index"] 1 id (xCons (xV 0) xNil))) (xCons (xF (xUn (fdvG K "index") (xV 2))) (xCons (xF (xUn (fdvG K "index") (xF (xMkE cs.InvalidTemplate ["index"] 1 id (xCons (xV 0) xNil))))) (xCons (xC (.str "value")) xNil)))))))
    (sSeq (sSet 2 (xMkE cs.InvalidNames ["value"] 1 id (xCons (xV 0) xNil)))
    (sSeq (sApp 1 (xF (xTup (xCons (xF (xMkE cs.InvalidNames ["value"] 1 id (xCons (xV 0) xNil))) (xCons (xF (xUn (fdvG K "value") (xV 2))) (xCons (xF (xUn (fdvG K "value") (xF (xMkE cs.InvalidNames ["value"] 1 id (xCons (xV 0) xNil))))) (xCons (xC (.str "value")) xNil)))))))
    (sSeq (sSet 2 (xMkE cs.InvalidLimit ["value"] 1 id (xCons (xV 0) xNil)))
    (sSeq (sApp 1 (xF (xTup (xCons (xF (xMkE cs.InvalidLimit ["value"] 1 id (xCons (xV 0) xNil))) (xCons (xF (xUn (fdvG K "value") (xV 2))) (xCons (xF (xUn (fdvG K "value") (xF (xMkE cs.InvalidLimit ["value"] 1 id (xCons (xV 0) xNil))))) (xCons (xC (.str "value")) xNil)))))))
    (sSeq (sSet 2 (xMkE cs.Unreadable ["index"] 1 id (xCons (xV 0) xNil)))
    (sSeq (sApp 1 (xF (xTup (xCons (xF (xMkE cs.Unreadable ["index"] 1 id (xCons (xV 0) xNil))) (xCons (xF (xUn (fdvG K "index") (xV 2))) (xCons (xF (xUn (fdvG K "index") (xF (xMkE cs.Unreadable ["index"] 1 id (xCons (xV 0) xNil))))) (xCons (xC (.str "value")) xNil)))))))
    (sRet (xU (xV 1))))))))))))))))))))))))))
def m__law_some_errors (K : PySem.W.Frag) (cs : Cs) : MF := mk false 3 (b__law_some_errors K cs)
theorem ok__law_some_errors (A : All P K mg cs) : FnOk P w K mg base (L2.CX P w) 3 A.a__law_some_errors A.d__law_some_errors p__law_some_errors (spM false 1 (m__law_some_errors K cs)) := by
  refine fnM A.F__law_some_errors sc__law_some_errors (by decide) fun cdv A' outer s H E hr => ?_
  have hu := hu_of hr
  have hu0 := hr.units0
  have hu64 := hr.units
  have hu65 := hr.u65
  exact (pxb_cons (pxs_setO (fun h => ps_set (i := 1) sc__law_some_errors.nd rfl (Or.inl rfl) h) (po_lst pxa_nil))
      (pxb_cons (pxs_set (fun h => ps_set (i := 2) sc__law_some_errors.nd rfl (Or.inl rfl) h) (po_mkEk A.e_InvalidTable.T A.e_InvalidTable.hi A.e_InvalidTable.hf (ok_InvalidTable___init__ A) (hr.mono (by decide)) A.kb_InvalidTable___init__ (by rfl) A.e_InvalidTable.hm (pxk_cons (px_var (pv 0)) pxk_nil) (fun _ _ => rfl) gok_id))
      (pxb_cons (pxs_app (ee := .Name "" ⟨0, 0, 0, 0⟩) (fun h => ps_expr (pe_bm PySem.F.plainAttrs_list PySem.F.slot_list_append PySem.F.type_list_append mt_append (pv 1) h)) (pxa_cons (px_F (po_tup (pxa_cons (px_F (po_mkE A.e_InvalidTable.T A.e_InvalidTable.hi A.e_InvalidTable.hf (ok_InvalidTable___init__ A) (hr.mono (by decide)) A.e_InvalidTable.hb (by rfl) A.e_InvalidTable.hm (pxa_cons (px_var (pv 0)) pxa_nil))) (pxa_cons (px_F (po_1 (g_fdv K "argument") (fun h => kFdV K h) (px_var (pv 2)))) (pxa_cons (px_F (po_1 (g_fdv K "argument") (fun h => kFdV K h) (px_F (po_mkE A.e_InvalidTable.T A.e_InvalidTable.hi A.e_InvalidTable.hf (ok_InvalidTable___init__ A) (hr.mono (by decide)) A.e_InvalidTable.hb (by rfl) A.e_InvalidTable.hm (pxa_cons (px_var (pv 0)) pxa_nil))))) (pxa_cons px_str pxa_nil)))))) pxa_nil))
      (pxb_cons (pxs_set (fun h => ps_set (i := 2) sc__law_some_errors.nd rfl (Or.inl rfl) h) (po_mkEk A.e_InvalidRow.T A.e_InvalidRow.hi A.e_InvalidRow.hf (ok_InvalidRow___init__ A) (hr.mono (by decide)) A.kb_InvalidRow___init__ (by rfl) A.e_InvalidRow.hm (pxk_cons (px_var (pv 0)) pxk_nil) (fun _ _ => rfl) gok_id))
      (pxb_cons (pxs_app (ee := .Name "" ⟨0, 0, 0, 0⟩) (fun h => ps_expr (pe_bm PySem.F.plainAttrs_list PySem.F.slot_list_append PySem.F.type_list_append mt_append (pv 1) h)) (pxa_cons (px_F (po_tup (pxa_cons (px_F (po_mkE A.e_InvalidRow.T A.e_InvalidRow.hi A.e_InvalidRow.hf (ok_InvalidRow___init__ A) (hr.mono (by decide)) A.e_InvalidRow.hb (by rfl) A.e_InvalidRow.hm (pxa_cons (px_var (pv 0)) pxa_nil))) (pxa_cons (px_F (po_1 (g_fdv K "value") (fun h => kFdV K h) (px_var (pv 2)))) (pxa_cons (px_F (po_1 (g_fdv K "value") (fun h => kFdV K h) (px_F (po_mkE A.e_InvalidRow.T A.e_InvalidRow.hi A.e_InvalidRow.hf (ok_InvalidRow___init__ A) (hr.mono (by decide)) A.e_InvalidRow.hb (by rfl) A.e_InvalidRow.hm (pxa_cons (px_var (pv 0)) pxa_nil))))) (pxa_cons px_str pxa_nil)))))) pxa_nil))
      (pxb_cons (pxs_set (fun h => ps_set (i := 2) sc__law_some_errors.nd rfl (Or.inl rfl) h) (po_mkEk A.e_InvalidRule.T A.e_InvalidRule.hi A.e_InvalidRule.hf (ok_InvalidRule___init__ A) (hr.mono (by decide)) A.kb_InvalidRule___init__ (by rfl) A.e_InvalidRule.hm (pxk_cons (px_var (pv 0)) pxk_nil) (fun _ _ => rfl) gok_id))
      (pxb_cons (pxs_app (ee := .Name "" ⟨0, 0, 0, 0⟩) (fun h => ps_expr (pe_bm PySem.F.plainAttrs_list PySem.F.slot_list_append PySem.F.type_list_append mt_append (pv 1) h)) (pxa_cons (px_F (po_tup (pxa_cons (px_F (po_mkE A.e_InvalidRule.T A.e_InvalidRule.hi A.e_InvalidRule.hf (ok_InvalidRule___init__ A) (hr.mono (by decide)) A.e_InvalidRule.hb (by rfl) A.e_InvalidRule.hm (pxa_cons (px_var (pv 0)) pxa_nil))) (pxa_cons (px_F (po_1 (g_fdv K "argument") (fun h => kFdV K h) (px_var (pv 2)))) (pxa_cons (px_F (po_1 (g_fdv K "argument") (fun h => kFdV K h) (px_F (po_mkE A.e_InvalidRule.T A.e_InvalidRule.hi A.e_InvalidRule.hf (ok_InvalidRule___init__ A) (hr.mono (by decide)) A.e_InvalidRule.hb (by rfl) A.e_InvalidRule.hm (pxa_cons (px_var (pv 0)) pxa_nil))))) (pxa_cons px_str pxa_nil)))))) pxa_nil))
      (pxb_cons (pxs_app (ee := .Name "" ⟨0, 0, 0, 0⟩) (fun h => ps_expr (pe_bm PySem.F.plainAttrs_list PySem.F.slot_list_append PySem.F.type_list_append mt_append (pv 1) h)) (pxa_cons (px_F (po_tup (pxa_cons (px_F (po_mkE A.e_Misfit.T A.e_Misfit.hi A.e_Misfit.hf (ok_Misfit___init__ A) (hr.mono (by decide)) A.e_Misfit.hb (by rfl) A.e_Misfit.hm (pxa_cons (px_var (pv 0)) pxa_nil))) (pxa_cons (px_F (po_1 (g_fdv K "index") (fun h => kFdV K h) (px_F (po_mkEk A.e_Misfit.T A.e_Misfit.hi A.e_Misfit.hf (ok_Misfit___init__ A) (hr.mono (by decide)) A.kb_Misfit___init__ (by rfl) A.e_Misfit.hm (pxk_cons (px_var (pv 0)) pxk_nil) (fun _ _ => rfl) gok_id)))) (pxa_cons (px_F (po_1 (g_fdv K "index") (fun h => kFdV K h) (px_F (po_mkE A.e_Misfit.T A.e_Misfit.hi A.e_Misfit.hf (ok_Misfit___init__ A) (hr.mono (by decide)) A.e_Misfit.hb (by rfl) A.e_Misfit.hm (pxa_cons (px_var (pv 0)) pxa_nil))))) (pxa_cons px_str pxa_nil)))))) pxa_nil))
      (pxb_cons (pxs_app (ee := .Name "" ⟨0, 0, 0, 0⟩) (fun h => ps_expr (pe_bm PySem.F.plainAttrs_list PySem.F.slot_list_append PySem.F.type_list_append mt_append (pv 1) h)) (pxa_cons (px_F (po_tup (pxa_cons (px_F (po_mkE A.e_Circle.T A.e_Circle.hi A.e_Circle.hf (ok_Circle___init__ A) (hr.mono (by decide)) A.e_Circle.hb (by rfl) A.e_Circle.hm (pxa_cons (px_var (pv 0)) pxa_nil))) (pxa_cons (px_F (po_1 (g_fdv K "value") (fun h => kFdV K h) (px_F (po_mkEk A.e_Circle.T A.e_Circle.hi A.e_Circle.hf (ok_Circle___init__ A) (hr.mono (by decide)) A.kb_Circle___init__ (by rfl) A.e_Circle.hm (pxk_cons (px_var (pv 0)) pxk_nil) (fun _ _ => rfl) gok_id)))) (pxa_cons (px_F (po_1 (g_fdv K "value") (fun h => kFdV K h) (px_F (po_mkE A.e_Circle.T A.e_Circle.hi A.e_Circle.hf (ok_Circle___init__ A) (hr.mono (by decide)) A.e_Circle.hb (by rfl) A.e_Circle.hm (pxa_cons (px_var (pv 0)) pxa_nil))))) (pxa_cons px_str pxa_nil)))))) pxa_nil))
      (pxb_cons (pxs_set (fun h => ps_set (i := 2) sc__law_some_errors.nd rfl (Or.inl rfl) h) (po_mkEk A.e_InvalidFact.T A.e_InvalidFact.hi A.e_InvalidFact.hf (ok_InvalidFact___init__ A) (hr.mono (by decide)) A.kb_InvalidFact___init__ (by rfl) A.e_InvalidFact.hm (pxk_cons (px_var (pv 0)) pxk_nil) (fun _ _ => rfl) gok_id))
      (pxb_cons (pxs_app (ee := .Name "" ⟨0, 0, 0, 0⟩) (fun h => ps_expr (pe_bm PySem.F.plainAttrs_list PySem.F.slot_list_append PySem.F.type_list_append mt_append (pv 1) h)) (pxa_cons (px_F (po_tup (pxa_cons (px_F (po_mkE A.e_InvalidFact.T A.e_InvalidFact.hi A.e_InvalidFact.hf (ok_InvalidFact___init__ A) (hr.mono (by decide)) A.e_InvalidFact.hb (by rfl) A.e_InvalidFact.hm (pxa_cons (px_var (pv 0)) pxa_nil))) (pxa_cons (px_F (po_1 (g_fdv K "index") (fun h => kFdV K h) (px_var (pv 2)))) (pxa_cons (px_F (po_1 (g_fdv K "index") (fun h => kFdV K h) (px_F (po_mkE A.e_InvalidFact.T A.e_InvalidFact.hi A.e_InvalidFact.hf (ok_InvalidFact___init__ A) (hr.mono (by decide)) A.e_InvalidFact.hb (by rfl) A.e_InvalidFact.hm (pxa_cons (px_var (pv 0)) pxa_nil))))) (pxa_cons px_str pxa_nil)))))) pxa_nil))
      (pxb_cons (pxs_set (fun h => ps_set (i := 2) sc__law_some_errors.nd rfl (Or.inl rfl) h) (po_mkEk A.e_InvalidChange.T A.e_InvalidChange.hi A.e_InvalidChange.hf (ok_InvalidChange___init__ A) (hr.mono (by decide)) A.kb_InvalidChange___init__ (by rfl) A.e_InvalidChange.hm (pxk_cons (px_var (pv 0)) pxk_nil) (fun _ _ => rfl) gok_id))
      (pxb_cons (pxs_app (ee := .Name "" ⟨0, 0, 0, 0⟩) (fun h => ps_expr (pe_bm PySem.F.plainAttrs_list PySem.F.slot_list_append PySem.F.type_list_append mt_append (pv 1) h)) (pxa_cons (px_F (po_tup (pxa_cons (px_F (po_mkE A.e_InvalidChange.T A.e_InvalidChange.hi A.e_InvalidChange.hf (ok_InvalidChange___init__ A) (hr.mono (by decide)) A.e_InvalidChange.hb (by rfl) A.e_InvalidChange.hm (pxa_cons (px_var (pv 0)) pxa_nil))) (pxa_cons (px_F (po_1 (g_fdv K "index") (fun h => kFdV K h) (px_var (pv 2)))) (pxa_cons (px_F (po_1 (g_fdv K "index") (fun h => kFdV K h) (px_F (po_mkE A.e_InvalidChange.T A.e_InvalidChange.hi A.e_InvalidChange.hf (ok_InvalidChange___init__ A) (hr.mono (by decide)) A.e_InvalidChange.hb (by rfl) A.e_InvalidChange.hm (pxa_cons (px_var (pv 0)) pxa_nil))))) (pxa_cons px_str pxa_nil)))))) pxa_nil))
      (pxb_cons (pxs_set (fun h => ps_set (i := 2) sc__law_some_errors.nd rfl (Or.inl rfl) h) (po_mkEk A.e_InvalidAnswer.T A.e_InvalidAnswer.hi A.e_InvalidAnswer.hf (ok_InvalidAnswer___init__ A) (hr.mono (by decide)) A.kb_InvalidAnswer___init__ (by rfl) A.e_InvalidAnswer.hm (pxk_cons (px_var (pv 0)) pxk_nil) (fun _ _ => rfl) gok_id))
      (pxb_cons (pxs_app (ee := .Name "" ⟨0, 0, 0, 0⟩) (fun h => ps_expr (pe_bm PySem.F.plainAttrs_list PySem.F.slot_list_append PySem.F.type_list_append mt_append (pv 1) h)) (pxa_cons (px_F (po_tup (pxa_cons (px_F (po_mkE A.e_InvalidAnswer.T A.e_InvalidAnswer.hi A.e_InvalidAnswer.hf (ok_InvalidAnswer___init__ A) (hr.mono (by decide)) A.e_InvalidAnswer.hb (by rfl) A.e_InvalidAnswer.hm (pxa_cons (px_var (pv 0)) pxa_nil))) (pxa_cons (px_F (po_1 (g_fdv K "value") (fun h => kFdV K h) (px_var (pv 2)))) (pxa_cons (px_F (po_1 (g_fdv K "value") (fun h => kFdV K h) (px_F (po_mkE A.e_InvalidAnswer.T A.e_InvalidAnswer.hi A.e_InvalidAnswer.hf (ok_InvalidAnswer___init__ A) (hr.mono (by decide)) A.e_InvalidAnswer.hb (by rfl) A.e_InvalidAnswer.hm (pxa_cons (px_var (pv 0)) pxa_nil))))) (pxa_cons px_str pxa_nil)))))) pxa_nil))
      (pxb_cons (pxs_set (fun h => ps_set (i := 2) sc__law_some_errors.nd rfl (Or.inl rfl) h) (po_mkEk A.e_InvalidTemplate.T A.e_InvalidTemplate.hi A.e_InvalidTemplate.hf (ok_InvalidTemplate___init__ A) (hr.mono (by decide)) A.kb_InvalidTemplate___init__ (by rfl) A.e_InvalidTemplate.hm (pxk_cons (px_var (pv 0)) pxk_nil) (fun _ _ => rfl) gok_id))
      (pxb_cons (pxs_app (ee := .Name "" ⟨0, 0, 0, 0⟩) (fun h => ps_expr (pe_bm PySem.F.plainAttrs_list PySem.F.slot_list_append PySem.F.type_list_append mt_append (pv 1) h)) (pxa_cons (px_F (po_tup (pxa_cons (px_F (po_mkE A.e_InvalidTemplate.T A.e_InvalidTemplate.hi A.e_InvalidTemplate.hf (ok_InvalidTemplate___init__ A) (hr.mono (by decide)) A.e_InvalidTemplate.hb (by rfl) A.e_InvalidTemplate.hm (pxa_cons (px_var (pv 0)) pxa_nil))) (pxa_cons (px_F (po_1 (g_fdv K "index") (fun h => kFdV K h) (px_var (pv 2)))) (pxa_cons (px_F (po_1 (g_fdv K "index") (fun h => kFdV K h) (px_F (po_mkE A.e_InvalidTemplate.T A.e_InvalidTemplate.hi A.e_InvalidTemplate.hf (ok_InvalidTemplate___init__ A) (hr.mono (by decide)) A.e_InvalidTemplate.hb (by rfl) A.e_InvalidTemplate.hm (pxa_cons (px_var (pv 0)) pxa_nil))))) (pxa_cons px_str pxa_nil)))))) pxa_nil))
      (pxb_cons (pxs_set (fun h => ps_set (i := 2) sc__law_some_errors.nd rfl (Or.inl rfl) h) (po_mkEk A.e_InvalidNames.T A.e_InvalidNames.hi A.e_InvalidNames.hf (ok_InvalidNames___init__ A) (hr.mono (by decide)) A.kb_InvalidNames___init__ (by rfl) A.e_InvalidNames.hm (pxk_cons (px_var (pv 0)) pxk_nil) (fun _ _ => rfl) gok_id))
      (pxb_cons (pxs_app (ee := .Name "" ⟨0, 0, 0, 0⟩) (fun h => ps_expr (pe_bm PySem.F.plainAttrs_list PySem.F.slot_list_append PySem.F.type_list_append mt_append (pv 1) h)) (pxa_cons (px_F (po_tup (pxa_cons (px_F (po_mkE A.e_InvalidNames.T A.e_InvalidNames.hi A.e_InvalidNames.hf (ok_InvalidNames___init__ A) (hr.mono (by decide)) A.e_InvalidNames.hb (by rfl) A.e_InvalidNames.hm (pxa_cons (px_var (pv 0)) pxa_nil))) (pxa_cons (px_F (po_1 (g_fdv K "value") (fun h => kFdV K h) (px_var (pv 2)))) (pxa_cons (px_F (po_1 (g_fdv K "value") (fun h => kFdV K h) (px_F (po_mkE A.e_InvalidNames.T A.e_InvalidNames.hi A.e_InvalidNames.hf (ok_InvalidNames___init__ A) (hr.mono (by decide)) A.e_InvalidNames.hb (by rfl) A.e_InvalidNames.hm (pxa_cons (px_var (pv 0)) pxa_nil))))) (pxa_cons px_str pxa_nil)))))) pxa_nil))
      (pxb_cons (pxs_set (fun h => ps_set (i := 2) sc__law_some_errors.nd rfl (Or.inl rfl) h) (po_mkEk A.e_InvalidLimit.T A.e_InvalidLimit.hi A.e_InvalidLimit.hf (ok_InvalidLimit___init__ A) (hr.mono (by decide)) A.kb_InvalidLimit___init__ (by rfl) A.e_InvalidLimit.hm (pxk_cons (px_var (pv 0)) pxk_nil) (fun _ _ => rfl) gok_id))
      (pxb_cons (pxs_app (ee := .Name "" ⟨0, 0, 0, 0⟩) (fun h => ps_expr (pe_bm PySem.F.plainAttrs_list PySem.F.slot_list_append PySem.F.type_list_append mt_append (pv 1) h)) (pxa_cons (px_F (po_tup (pxa_cons (px_F (po_mkE A.e_InvalidLimit.T A.e_InvalidLimit.hi A.e_InvalidLimit.hf (ok_InvalidLimit___init__ A) (hr.mono (by decide)) A.e_InvalidLimit.hb (by rfl) A.e_InvalidLimit.hm (pxa_cons (px_var (pv 0)) pxa_nil))) (pxa_cons (px_F (po_1 (g_fdv K "value") (fun h => kFdV K h) (px_var (pv 2)))) (pxa_cons (px_F (po_1 (g_fdv K "value") (fun h => kFdV K h) (px_F (po_mkE A.e_InvalidLimit.T A.e_InvalidLimit.hi A.e_InvalidLimit.hf (ok_InvalidLimit___init__ A) (hr.mono (by decide)) A.e_InvalidLimit.hb (by rfl) A.e_InvalidLimit.hm (pxa_cons (px_var (pv 0)) pxa_nil))))) (pxa_cons px_str pxa_nil)))))) pxa_nil))
      (pxb_cons (pxs_set (fun h => ps_set (i := 2) sc__law_some_errors.nd rfl (Or.inl rfl) h) (po_mkEk A.e_Unreadable.T A.e_Unreadable.hi A.e_Unreadable.hf (ok_Unreadable___init__ A) (hr.mono (by decide)) A.kb_Unreadable___init__ (by rfl) A.e_Unreadable.hm (pxk_cons (px_var (pv 0)) pxk_nil) (fun _ _ => rfl) gok_id))
      (pxb_cons (pxs_app (ee := .Name "" ⟨0, 0, 0, 0⟩) (fun h => ps_expr (pe_bm PySem.F.plainAttrs_list PySem.F.slot_list_append PySem.F.type_list_append mt_append (pv 1) h)) (pxa_cons (px_F (po_tup (pxa_cons (px_F (po_mkE A.e_Unreadable.T A.e_Unreadable.hi A.e_Unreadable.hf (ok_Unreadable___init__ A) (hr.mono (by decide)) A.e_Unreadable.hb (by rfl) A.e_Unreadable.hm (pxa_cons (px_var (pv 0)) pxa_nil))) (pxa_cons (px_F (po_1 (g_fdv K "index") (fun h => kFdV K h) (px_var (pv 2)))) (pxa_cons (px_F (po_1 (g_fdv K "index") (fun h => kFdV K h) (px_F (po_mkE A.e_Unreadable.T A.e_Unreadable.hi A.e_Unreadable.hf (ok_Unreadable___init__ A) (hr.mono (by decide)) A.e_Unreadable.hb (by rfl) A.e_Unreadable.hm (pxa_cons (px_var (pv 0)) pxa_nil))))) (pxa_cons px_str pxa_nil)))))) pxa_nil))
      (pxb_one (pxs_ret (po_U (px_var (pv 1))))))))))))))))))))))))))))
/-! _law_other_errors -/
def b__law_other_errors (K : PySem.W.Frag) (cs : Cs) : Sx :=
    (sSeq (sSetO 1 (xLst xNil))
    (sSeq (sSet 2 (xMkE cs.UnknownTable ["value"] 1 id (xCons (xV 0) xNil)))
    (sSeq (sApp 1 (xF (xTup (xCons (xF (xMkE cs.UnknownTable ["value"] 1 id (xCons (xV 0) xNil))) (xCons (xF (xUn (fdvG K "value") (xV 2))) (xCons (xF (xUn (fdvG K "value") (xF (xMkE cs.UnknownTable ["value"] 1 id (xCons (xV 0) xNil))))) (xCons (xC (.str "lookup")) xNil)))))))
    (sSeq (sSet 2 (xMkE cs.UnknownColumn ["value"] 1 id (xCons (xV 0) xNil)))
    (sSeq (sApp 1 (xF (xTup (xCons (xF (xMkE cs.UnknownColumn ["value"] 1 id (xCons (xV 0) xNil))) (xCons (xF (xUn (fdvG K "value") (xV 2))) (xCons (xF (xUn (fdvG K "value") (xF (xMkE cs.UnknownColumn ["value"] 1 id (xCons (xV 0) xNil))))) (xCons (xC (.str "lookup")) xNil)))))))
    (sSeq (sSet 2 (xMkE cs.OutOfRange ["value"] 1 id (xCons (xV 0) xNil)))
    (sSeq (sApp 1 (xF (xTup (xCons (xF (xMkE cs.OutOfRange ["value"] 1 id (xCons (xV 0) xNil))) (xCons (xF (xUn (fdvG K "value") (xV 2))) (xCons (xF (xUn (fdvG K "value") (xF (xMkE cs.OutOfRange ["value"] 1 id (xCons (xV 0) xNil))))) (xCons (xC (.str "lookup")) xNil)))))))
    (sSeq (sApp 1 (xF (xTup (xCons (xF (xMkE cs.NoAnswer ["value"] 1 id (xCons (xV 0) xNil))) (xCons (xF (xUn (fdvG K "value") (xF (xMkE cs.NoAnswer ["value"] 1 id (xCons (xV 0) xNil))))) (xCons (xF (xUn (fdvG K "value") (xF (xMkE cs.NoAnswer ["value"] 1 id (xCons (xV 0) xNil))))) (xCons (xC (.str "lookup")) xNil)))))))
    (sSeq (sApp 1 (xF (xTup (xCons (xF (xMkE cs.NoCase ["case"] 1 id (xCons (xV 0) xNil))) (xCons (xF (xUn (fdvG K "case") (xF (xMkE cs.NoCase ["case"] 1 id (xCons (xV 0) xNil))))) (xCons (xF (xUn (fdvG K "case") (xF (xMkE cs.NoCase ["case"] 1 id (xCons (xV 0) xNil))))) (xCons (xC (.str "lookup")) xNil)))))))
    (sSeq (sApp 1 (xF (xTup (xCons (xF (xMkE cs.NoBranch ["value"] 1 id (xCons (xV 0) xNil))) (xCons (xF (xUn (fdvG K "value") (xF (xMkE cs.NoBranch ["value"] 1 id (xCons (xV 0) xNil))))) (xCons (xF (xUn (fdvG K "value") (xF (xMkE cs.NoBranch ["value"] 1 id (xCons (xV 0) xNil))))) (xCons (xC (.str "lookup")) xNil)))))))
    (sSeq (sApp 1 (xF (xTup (xCons (xF (xMkE cs.TooMany ["limit"] 1 id (xCons (xV 0) xNil))) (xCons (xF (xUn (fdvG K "limit") (xF (xMkE cs.TooMany ["limit"] 1 id (xCons (xV 0) xNil))))) (xCons (xF (xUn (fdvG K "limit") (xF (xMkE cs.TooMany ["limit"] 1 id (xCons (xV 0) xNil))))) (xCons (xC (.str "overflow")) xNil)))))))
    (sSeq (sApp 1 (xF (xTup (xCons (xF (xMkE cs.TooDear ["number"] 1 id (xCons (xV 0) xNil))) (xCons (xF (xUn (fdvG K "number") (xF (xMkE cs.TooDear ["number"] 1 id (xCons (xV 0) xNil))))) (xCons (xF (xUn (fdvG K "number") (xF (xMkE cs.TooDear ["number"] 1 id (xCons (xV 0) xNil))))) (xCons (xC (.str "overflow")) xNil)))))))
    (sSeq (sSet 2 (xMkE cs.Broken ["index", "spot"] 2 List.reverse (xCons (xV 0) (xCons (xC (.int 0)) xNil))))
    (sSeq (sApp 1 (xF (xTup (xCons (xF (xMkE cs.Broken ["index", "spot"] 2 id (xCons (xC (.int 0)) (xCons (xV 0) xNil)))) (xCons (xF (xUn (fdvG K "spot") (xV 2))) (xCons (xF (xUn (fdvG K "spot") (xF (xMkE cs.Broken ["index", "spot"] 2 id (xCons (xC (.int 0)) (xCons (xV 0) xNil)))))) (xCons (xC (.str "runtime")) xNil)))))))
    (sSeq (sSet 2 (xMkE cs.Broken ["index", "spot"] 2 List.reverse (xCons (xC (.int 0)) (xCons (xV 0) xNil))))
    (sSeq (sApp 1 (xF (xTup (xCons (xF (xMkE cs.Broken ["index", "spot"] 2 id (xCons (xV 0) (xCons (xC (.int 0)) xNil)))) (xCons (xF (xUn (fdvG K "index") (xV 2))) (xCons (xF (xUn (fdvG K "index") (xF (xMkE cs.Broken ["index", "spot"] 2 id (xCons (xV 0) (xCons (xC (.int 0)) xNil)))))) (xCons (xC (.str "runtime")) xNil)))))))
    (sSeq (sApp 1 (xF (xTup (xCons (xF (xMkE cs.Unfit ["index"] 1 id (xCons (xV 0) xNil))) (xCons (xF (xUn (fdvG K "index") (xF (xMkE cs.Unfit ["index"] 1 id (xCons (xV 0) xNil))))) (xCons (xF (xUn (fdvG K "index") (xF (xMkE cs.Unfit ["index"] 1 id (xCons (xV 0) xNil))))) (xCons (xC (.str "runtime")) xNil)))))))
    (sSeq (sApp 1 (xF (xTup (xCons (xF (xMkE cs.Refused ["change"] 1 id (xCons (xV 0) xNil))) (xCons (xF (xUn (fdvG K "change") (xF (xMkE cs.Refused ["change"] 1 id (xCons (xV 0) xNil))))) (xCons (xF (xUn (fdvG K "change") (xF (xMkE cs.Refused ["change"] 1 id (xCons (xV 0) xNil))))) (xCons (xC (.str "runtime")) xNil)))))))
    (sSeq (sSet 2 (xMkE cs.LookFailed ["number"] 1 id (xCons (xV 0) xNil)))
    (sSeq (sApp 1 (xF (xTup (xCons (xF (xMkE cs.LookFailed ["number"] 1 id (xCons (xV 0) xNil))) (xCons (xF (xUn (fdvG K "number") (xV 2))) (xCons (xF (xUn (fdvG K "number") (xF (xMkE cs.LookFailed ["number"] 1 id (xCons (xV 0) xNil))))) (xCons (xC (.str "runtime")) xNil)))))))
    (sSeq (sApp 1 (xF (xTup (xCons (xF (xMkE cs.NoLook ["value"] 1 id (xCons (xV 0) xNil))) (xCons (xF (xUn (fdvG K "value") (xF (xMkE cs.NoLook ["value"] 1 id (xCons (xV 0) xNil))))) (xCons (xF (xUn (fdvG K "value") (xF (xMkE cs.NoLook ["value"] 1 id (xCons (xV 0) xNil))))) (xCons (xC (.str "runtime")) xNil)))))))
    (sSeq (sApp 1 (xF (xTup (xCons (xF (xMkE0 cs.InvalidSchema)) (xCons (xV 0) (xCons (xV 0) (xCons (xC (.str "value")) xNil)))))))
    (sSeq (sApp 1 (xF (xTup (xCons (xF (xMkE0 cs.OtherSchema)) (xCons (xV 0) (xCons (xV 0) (xCons (xC (.str "value")) xNil)))))))
    (sSeq (sApp 1 (xF (xTup (xCons (xF (xMkE0 cs.InvalidPair)) (xCons (xV 0) (xCons (xV 0) (xCons (xC (.str "value")) xNil)))))))
    (sSeq (sApp 1 (xF (xTup (xCons (xF (xMkE0 cs.NoLine)) (xCons (xV 0) (xCons (xV 0) (xCons (xC (.str "value")) xNil)))))))
    (sSeq (sApp 1 (xF (xTup (xCons (xF (xMkE0 cs.Nothing)) (xCons (xV 0) (xCons (xV 0) (xCons (xC (.str "lookup")) xNil)))))))
    (sSeq (sApp 1 (xF (xTup (xCons (xF (xMkE0 cs.NeverFits)) (xCons (xV 0) (xCons (xV 0) (xCons (xC (.str "runtime")) xNil)))))))
    (sRet (xU (xV 1))))))))))))))))))))))))))))))
def m__law_other_errors (K : PySem.W.Frag) (cs : Cs) : MF := mk false 3 (b__law_other_errors K cs)
theorem ok__law_other_errors (A : All P K mg cs) : FnOk P w K mg base (L2.CX P w) 3 A.a__law_other_errors A.d__law_other_errors p__law_other_errors (spM false 1 (m__law_other_errors K cs)) := by
  refine fnM A.F__law_other_errors sc__law_other_errors (by decide) fun cdv A' outer s H E hr => ?_
  have hu := hu_of hr
  have hu0 := hr.units0
  have hu64 := hr.units
  have hu65 := hr.u65
  exact (pxb_cons (pxs_setO (fun h => ps_set (i := 1) sc__law_other_errors.nd rfl (Or.inl rfl) h) (po_lst pxa_nil))
      (pxb_cons (pxs_set (fun h => ps_set (i := 2) sc__law_other_errors.nd rfl (Or.inl rfl) h) (po_mkEk A.e_UnknownTable.T A.e_UnknownTable.hi A.e_UnknownTable.hf (ok_UnknownTable___init__ A) (hr.mono (by decide)) A.kb_UnknownTable___init__ (by rfl) A.e_UnknownTable.hm (pxk_cons (px_var (pv 0)) pxk_nil) (fun _ _ => rfl) gok_id))
      (pxb_cons (pxs_app (ee := .Name "" ⟨0, 0, 0, 0⟩) (fun h => ps_expr (pe_bm PySem.F.plainAttrs_list PySem.F.slot_list_append PySem.F.type_list_append mt_append (pv 1) h)) (pxa_cons (px_F (po_tup (pxa_cons (px_F (po_mkE A.e_UnknownTable.T A.e_UnknownTable.hi A.e_UnknownTable.hf (ok_UnknownTable___init__ A) (hr.mono (by decide)) A.e_UnknownTable.hb (by rfl) A.e_UnknownTable.hm (pxa_cons (px_var (pv 0)) pxa_nil))) (pxa_cons (px_F (po_1 (g_fdv K "value") (fun h => kFdV K h) (px_var (pv 2)))) (pxa_cons (px_F (po_1 (g_fdv K "value") (fun h => kFdV K h) (px_F (po_mkE A.e_UnknownTable.T A.e_UnknownTable.hi A.e_UnknownTable.hf (ok_UnknownTable___init__ A) (hr.mono (by decide)) A.e_UnknownTable.hb (by rfl) A.e_UnknownTable.hm (pxa_cons (px_var (pv 0)) pxa_nil))))) (pxa_cons px_str pxa_nil)))))) pxa_nil))
      (pxb_cons (pxs_set (fun h => ps_set (i := 2) sc__law_other_errors.nd rfl (Or.inl rfl) h) (po_mkEk A.e_UnknownColumn.T A.e_UnknownColumn.hi A.e_UnknownColumn.hf (ok_UnknownColumn___init__ A) (hr.mono (by decide)) A.kb_UnknownColumn___init__ (by rfl) A.e_UnknownColumn.hm (pxk_cons (px_var (pv 0)) pxk_nil) (fun _ _ => rfl) gok_id))
      (pxb_cons (pxs_app (ee := .Name "" ⟨0, 0, 0, 0⟩) (fun h => ps_expr (pe_bm PySem.F.plainAttrs_list PySem.F.slot_list_append PySem.F.type_list_append mt_append (pv 1) h)) (pxa_cons (px_F (po_tup (pxa_cons (px_F (po_mkE A.e_UnknownColumn.T A.e_UnknownColumn.hi A.e_UnknownColumn.hf (ok_UnknownColumn___init__ A) (hr.mono (by decide)) A.e_UnknownColumn.hb (by rfl) A.e_UnknownColumn.hm (pxa_cons (px_var (pv 0)) pxa_nil))) (pxa_cons (px_F (po_1 (g_fdv K "value") (fun h => kFdV K h) (px_var (pv 2)))) (pxa_cons (px_F (po_1 (g_fdv K "value") (fun h => kFdV K h) (px_F (po_mkE A.e_UnknownColumn.T A.e_UnknownColumn.hi A.e_UnknownColumn.hf (ok_UnknownColumn___init__ A) (hr.mono (by decide)) A.e_UnknownColumn.hb (by rfl) A.e_UnknownColumn.hm (pxa_cons (px_var (pv 0)) pxa_nil))))) (pxa_cons px_str pxa_nil)))))) pxa_nil))
      (pxb_cons (pxs_set (fun h => ps_set (i := 2) sc__law_other_errors.nd rfl (Or.inl rfl) h) (po_mkEk A.e_OutOfRange.T A.e_OutOfRange.hi A.e_OutOfRange.hf (ok_OutOfRange___init__ A) (hr.mono (by decide)) A.kb_OutOfRange___init__ (by rfl) A.e_OutOfRange.hm (pxk_cons (px_var (pv 0)) pxk_nil) (fun _ _ => rfl) gok_id))
      (pxb_cons (pxs_app (ee := .Name "" ⟨0, 0, 0, 0⟩) (fun h => ps_expr (pe_bm PySem.F.plainAttrs_list PySem.F.slot_list_append PySem.F.type_list_append mt_append (pv 1) h)) (pxa_cons (px_F (po_tup (pxa_cons (px_F (po_mkE A.e_OutOfRange.T A.e_OutOfRange.hi A.e_OutOfRange.hf (ok_OutOfRange___init__ A) (hr.mono (by decide)) A.e_OutOfRange.hb (by rfl) A.e_OutOfRange.hm (pxa_cons (px_var (pv 0)) pxa_nil))) (pxa_cons (px_F (po_1 (g_fdv K "value") (fun h => kFdV K h) (px_var (pv 2)))) (pxa_cons (px_F (po_1 (g_fdv K "value") (fun h => kFdV K h) (px_F (po_mkE A.e_OutOfRange.T A.e_OutOfRange.hi A.e_OutOfRange.hf (ok_OutOfRange___init__ A) (hr.mono (by decide)) A.e_OutOfRange.hb (by rfl) A.e_OutOfRange.hm (pxa_cons (px_var (pv 0)) pxa_nil))))) (pxa_cons px_str pxa_nil)))))) pxa_nil))
      (pxb_cons (pxs_app (ee := .Name "" ⟨0, 0, 0, 0⟩) (fun h => ps_expr (pe_bm PySem.F.plainAttrs_list PySem.F.slot_list_append PySem.F.type_list_append mt_append (pv 1) h)) (pxa_cons (px_F (po_tup (pxa_cons (px_F (po_mkE A.e_NoAnswer.T A.e_NoAnswer.hi A.e_NoAnswer.hf (ok_NoAnswer___init__ A) (hr.mono (by decide)) A.e_NoAnswer.hb (by rfl) A.e_NoAnswer.hm (pxa_cons (px_var (pv 0)) pxa_nil))) (pxa_cons (px_F (po_1 (g_fdv K "value") (fun h => kFdV K h) (px_F (po_mkEk A.e_NoAnswer.T A.e_NoAnswer.hi A.e_NoAnswer.hf (ok_NoAnswer___init__ A) (hr.mono (by decide)) A.kb_NoAnswer___init__ (by rfl) A.e_NoAnswer.hm (pxk_cons (px_var (pv 0)) pxk_nil) (fun _ _ => rfl) gok_id)))) (pxa_cons (px_F (po_1 (g_fdv K "value") (fun h => kFdV K h) (px_F (po_mkE A.e_NoAnswer.T A.e_NoAnswer.hi A.e_NoAnswer.hf (ok_NoAnswer___init__ A) (hr.mono (by decide)) A.e_NoAnswer.hb (by rfl) A.e_NoAnswer.hm (pxa_cons (px_var (pv 0)) pxa_nil))))) (pxa_cons px_str pxa_nil)))))) pxa_nil))
      (pxb_cons (pxs_app (ee := .Name "" ⟨0, 0, 0, 0⟩) (fun h => ps_expr (pe_bm PySem.F.plainAttrs_list PySem.F.slot_list_append PySem.F.type_list_append mt_append (pv 1) h)) (pxa_cons (px_F (po_tup (pxa_cons (px_F (po_mkE A.e_NoCase.T A.e_NoCase.hi A.e_NoCase.hf (ok_NoCase___init__ A) (hr.mono (by decide)) A.e_NoCase.hb (by rfl) A.e_NoCase.hm (pxa_cons (px_var (pv 0)) pxa_nil))) (pxa_cons (px_F (po_1 (g_fdv K "case") (fun h => kFdV K h) (px_F (po_mkEk A.e_NoCase.T A.e_NoCase.hi A.e_NoCase.hf (ok_NoCase___init__ A) (hr.mono (by decide)) A.kb_NoCase___init__ (by rfl) A.e_NoCase.hm (pxk_cons (px_var (pv 0)) pxk_nil) (fun _ _ => rfl) gok_id)))) (pxa_cons (px_F (po_1 (g_fdv K "case") (fun h => kFdV K h) (px_F (po_mkE A.e_NoCase.T A.e_NoCase.hi A.e_NoCase.hf (ok_NoCase___init__ A) (hr.mono (by decide)) A.e_NoCase.hb (by rfl) A.e_NoCase.hm (pxa_cons (px_var (pv 0)) pxa_nil))))) (pxa_cons px_str pxa_nil)))))) pxa_nil))
      (pxb_cons (pxs_app (ee := .Name "" ⟨0, 0, 0, 0⟩) (fun h => ps_expr (pe_bm PySem.F.plainAttrs_list PySem.F.slot_list_append PySem.F.type_list_append mt_append (pv 1) h)) (pxa_cons (px_F (po_tup (pxa_cons (px_F (po_mkE A.e_NoBranch.T A.e_NoBranch.hi A.e_NoBranch.hf (ok_NoBranch___init__ A) (hr.mono (by decide)) A.e_NoBranch.hb (by rfl) A.e_NoBranch.hm (pxa_cons (px_var (pv 0)) pxa_nil))) (pxa_cons (px_F (po_1 (g_fdv K "value") (fun h => kFdV K h) (px_F (po_mkEk A.e_NoBranch.T A.e_NoBranch.hi A.e_NoBranch.hf (ok_NoBranch___init__ A) (hr.mono (by decide)) A.kb_NoBranch___init__ (by rfl) A.e_NoBranch.hm (pxk_cons (px_var (pv 0)) pxk_nil) (fun _ _ => rfl) gok_id)))) (pxa_cons (px_F (po_1 (g_fdv K "value") (fun h => kFdV K h) (px_F (po_mkE A.e_NoBranch.T A.e_NoBranch.hi A.e_NoBranch.hf (ok_NoBranch___init__ A) (hr.mono (by decide)) A.e_NoBranch.hb (by rfl) A.e_NoBranch.hm (pxa_cons (px_var (pv 0)) pxa_nil))))) (pxa_cons px_str pxa_nil)))))) pxa_nil))
      (pxb_cons (pxs_app (ee := .Name "" ⟨0, 0, 0, 0⟩) (fun h => ps_expr (pe_bm PySem.F.plainAttrs_list PySem.F.slot_list_append PySem.F.type_list_append mt_append (pv 1) h)) (pxa_cons (px_F (po_tup (pxa_cons (px_F (po_mkE A.e_TooMany.T A.e_TooMany.hi A.e_TooMany.hf (ok_TooMany___init__ A) (hr.mono (by decide)) A.e_TooMany.hb (by rfl) A.e_TooMany.hm (pxa_cons (px_var (pv 0)) pxa_nil))) (pxa_cons (px_F (po_1 (g_fdv K "limit") (fun h => kFdV K h) (px_F (po_mkEk A.e_TooMany.T A.e_TooMany.hi A.e_TooMany.hf (ok_TooMany___init__ A) (hr.mono (by decide)) A.kb_TooMany___init__ (by rfl) A.e_TooMany.hm (pxk_cons (px_var (pv 0)) pxk_nil) (fun _ _ => rfl) gok_id)))) (pxa_cons (px_F (po_1 (g_fdv K "limit") (fun h => kFdV K h) (px_F (po_mkE A.e_TooMany.T A.e_TooMany.hi A.e_TooMany.hf (ok_TooMany___init__ A) (hr.mono (by decide)) A.e_TooMany.hb (by rfl) A.e_TooMany.hm (pxa_cons (px_var (pv 0)) pxa_nil))))) (pxa_cons px_str pxa_nil)))))) pxa_nil))
      (pxb_cons (pxs_app (ee := .Name "" ⟨0, 0, 0, 0⟩) (fun h => ps_expr (pe_bm PySem.F.plainAttrs_list PySem.F.slot_list_append PySem.F.type_list_append mt_append (pv 1) h)) (pxa_cons (px_F (po_tup (pxa_cons (px_F (po_mkE A.e_TooDear.T A.e_TooDear.hi A.e_TooDear.hf (ok_TooDear___init__ A) (hr.mono (by decide)) A.e_TooDear.hb (by rfl) A.e_TooDear.hm (pxa_cons (px_var (pv 0)) pxa_nil))) (pxa_cons (px_F (po_1 (g_fdv K "number") (fun h => kFdV K h) (px_F (po_mkEk A.e_TooDear.T A.e_TooDear.hi A.e_TooDear.hf (ok_TooDear___init__ A) (hr.mono (by decide)) A.kb_TooDear___init__ (by rfl) A.e_TooDear.hm (pxk_cons (px_var (pv 0)) pxk_nil) (fun _ _ => rfl) gok_id)))) (pxa_cons (px_F (po_1 (g_fdv K "number") (fun h => kFdV K h) (px_F (po_mkE A.e_TooDear.T A.e_TooDear.hi A.e_TooDear.hf (ok_TooDear___init__ A) (hr.mono (by decide)) A.e_TooDear.hb (by rfl) A.e_TooDear.hm (pxa_cons (px_var (pv 0)) pxa_nil))))) (pxa_cons px_str pxa_nil)))))) pxa_nil))
      (pxb_cons (pxs_set (fun h => ps_set (i := 2) sc__law_other_errors.nd rfl (Or.inl rfl) h) (po_mkEk A.e_Broken.T A.e_Broken.hi A.e_Broken.hf (ok_Broken___init__ A) (hr.mono (by decide)) A.kb_Broken___init__ (by rfl) A.e_Broken.hm (pxk_cons (px_var (pv 0)) (pxk_cons px_int pxk_nil)) (fun _ _ => rfl) gok_rev))
      (pxb_cons (pxs_app (ee := .Name "" ⟨0, 0, 0, 0⟩) (fun h => ps_expr (pe_bm PySem.F.plainAttrs_list PySem.F.slot_list_append PySem.F.type_list_append mt_append (pv 1) h)) (pxa_cons (px_F (po_tup (pxa_cons (px_F (po_mkE A.e_Broken.T A.e_Broken.hi A.e_Broken.hf (ok_Broken___init__ A) (hr.mono (by decide)) A.e_Broken.hb (by rfl) A.e_Broken.hm (pxa_cons px_int (pxa_cons (px_var (pv 0)) pxa_nil)))) (pxa_cons (px_F (po_1 (g_fdv K "spot") (fun h => kFdV K h) (px_var (pv 2)))) (pxa_cons (px_F (po_1 (g_fdv K "spot") (fun h => kFdV K h) (px_F (po_mkE A.e_Broken.T A.e_Broken.hi A.e_Broken.hf (ok_Broken___init__ A) (hr.mono (by decide)) A.e_Broken.hb (by rfl) A.e_Broken.hm (pxa_cons px_int (pxa_cons (px_var (pv 0)) pxa_nil)))))) (pxa_cons px_str pxa_nil)))))) pxa_nil))
      (pxb_cons (pxs_set (fun h => ps_set (i := 2) sc__law_other_errors.nd rfl (Or.inl rfl) h) (po_mkEk A.e_Broken.T A.e_Broken.hi A.e_Broken.hf (ok_Broken___init__ A) (hr.mono (by decide)) A.kb_Broken___init__ (by rfl) A.e_Broken.hm (pxk_cons px_int (pxk_cons (px_var (pv 0)) pxk_nil)) (fun _ _ => rfl) gok_rev))
      (pxb_cons (pxs_app (ee := .Name "" ⟨0, 0, 0, 0⟩) (fun h => ps_expr (pe_bm PySem.F.plainAttrs_list PySem.F.slot_list_append PySem.F.type_list_append mt_append (pv 1) h)) (pxa_cons (px_F (po_tup (pxa_cons (px_F (po_mkE A.e_Broken.T A.e_Broken.hi A.e_Broken.hf (ok_Broken___init__ A) (hr.mono (by decide)) A.e_Broken.hb (by rfl) A.e_Broken.hm (pxa_cons (px_var (pv 0)) (pxa_cons px_int pxa_nil)))) (pxa_cons (px_F (po_1 (g_fdv K "index") (fun h => kFdV K h) (px_var (pv 2)))) (pxa_cons (px_F (po_1 (g_fdv K "index") (fun h => kFdV K h) (px_F (po_mkE A.e_Broken.T A.e_Broken.hi A.e_Broken.hf (ok_Broken___init__ A) (hr.mono (by decide)) A.e_Broken.hb (by rfl) A.e_Broken.hm (pxa_cons (px_var (pv 0)) (pxa_cons px_int pxa_nil)))))) (pxa_cons px_str pxa_nil)))))) pxa_nil))
      (pxb_cons (pxs_app (ee := .Name "" ⟨0, 0, 0, 0⟩) (fun h => ps_expr (pe_bm PySem.F.plainAttrs_list PySem.F.slot_list_append PySem.F.type_list_append mt_append (pv 1) h)) (pxa_cons (px_F (po_tup (pxa_cons (px_F (po_mkE A.e_Unfit.T A.e_Unfit.hi A.e_Unfit.hf (ok_Unfit___init__ A) (hr.mono (by decide)) A.e_Unfit.hb (by rfl) A.e_Unfit.hm (pxa_cons (px_var (pv 0)) pxa_nil))) (pxa_cons (px_F (po_1 (g_fdv K "index") (fun h => kFdV K h) (px_F (po_mkEk A.e_Unfit.T A.e_Unfit.hi A.e_Unfit.hf (ok_Unfit___init__ A) (hr.mono (by decide)) A.kb_Unfit___init__ (by rfl) A.e_Unfit.hm (pxk_cons (px_var (pv 0)) pxk_nil) (fun _ _ => rfl) gok_id)))) (pxa_cons (px_F (po_1 (g_fdv K "index") (fun h => kFdV K h) (px_F (po_mkE A.e_Unfit.T A.e_Unfit.hi A.e_Unfit.hf (ok_Unfit___init__ A) (hr.mono (by decide)) A.e_Unfit.hb (by rfl) A.e_Unfit.hm (pxa_cons (px_var (pv 0)) pxa_nil))))) (pxa_cons px_str pxa_nil)))))) pxa_nil))
      (pxb_cons (pxs_app (ee := .Name "" ⟨0, 0, 0, 0⟩) (fun h => ps_expr (pe_bm PySem.F.plainAttrs_list PySem.F.slot_list_append PySem.F.type_list_append mt_append (pv 1) h)) (pxa_cons (px_F (po_tup (pxa_cons (px_F (po_mkE A.e_Refused.T A.e_Refused.hi A.e_Refused.hf (ok_Refused___init__ A) (hr.mono (by decide)) A.e_Refused.hb (by rfl) A.e_Refused.hm (pxa_cons (px_var (pv 0)) pxa_nil))) (pxa_cons (px_F (po_1 (g_fdv K "change") (fun h => kFdV K h) (px_F (po_mkEk A.e_Refused.T A.e_Refused.hi A.e_Refused.hf (ok_Refused___init__ A) (hr.mono (by decide)) A.kb_Refused___init__ (by rfl) A.e_Refused.hm (pxk_cons (px_var (pv 0)) pxk_nil) (fun _ _ => rfl) gok_id)))) (pxa_cons (px_F (po_1 (g_fdv K "change") (fun h => kFdV K h) (px_F (po_mkE A.e_Refused.T A.e_Refused.hi A.e_Refused.hf (ok_Refused___init__ A) (hr.mono (by decide)) A.e_Refused.hb (by rfl) A.e_Refused.hm (pxa_cons (px_var (pv 0)) pxa_nil))))) (pxa_cons px_str pxa_nil)))))) pxa_nil))
      (pxb_cons (pxs_set (fun h => ps_set (i := 2) sc__law_other_errors.nd rfl (Or.inl rfl) h) (po_mkEk A.e_LookFailed.T A.e_LookFailed.hi A.e_LookFailed.hf (ok_LookFailed___init__ A) (hr.mono (by decide)) A.kb_LookFailed___init__ (by rfl) A.e_LookFailed.hm (pxk_cons (px_var (pv 0)) pxk_nil) (fun _ _ => rfl) gok_id))
      (pxb_cons (pxs_app (ee := .Name "" ⟨0, 0, 0, 0⟩) (fun h => ps_expr (pe_bm PySem.F.plainAttrs_list PySem.F.slot_list_append PySem.F.type_list_append mt_append (pv 1) h)) (pxa_cons (px_F (po_tup (pxa_cons (px_F (po_mkE A.e_LookFailed.T A.e_LookFailed.hi A.e_LookFailed.hf (ok_LookFailed___init__ A) (hr.mono (by decide)) A.e_LookFailed.hb (by rfl) A.e_LookFailed.hm (pxa_cons (px_var (pv 0)) pxa_nil))) (pxa_cons (px_F (po_1 (g_fdv K "number") (fun h => kFdV K h) (px_var (pv 2)))) (pxa_cons (px_F (po_1 (g_fdv K "number") (fun h => kFdV K h) (px_F (po_mkE A.e_LookFailed.T A.e_LookFailed.hi A.e_LookFailed.hf (ok_LookFailed___init__ A) (hr.mono (by decide)) A.e_LookFailed.hb (by rfl) A.e_LookFailed.hm (pxa_cons (px_var (pv 0)) pxa_nil))))) (pxa_cons px_str pxa_nil)))))) pxa_nil))
      (pxb_cons (pxs_app (ee := .Name "" ⟨0, 0, 0, 0⟩) (fun h => ps_expr (pe_bm PySem.F.plainAttrs_list PySem.F.slot_list_append PySem.F.type_list_append mt_append (pv 1) h)) (pxa_cons (px_F (po_tup (pxa_cons (px_F (po_mkE A.e_NoLook.T A.e_NoLook.hi A.e_NoLook.hf (ok_NoLook___init__ A) (hr.mono (by decide)) A.e_NoLook.hb (by rfl) A.e_NoLook.hm (pxa_cons (px_var (pv 0)) pxa_nil))) (pxa_cons (px_F (po_1 (g_fdv K "value") (fun h => kFdV K h) (px_F (po_mkEk A.e_NoLook.T A.e_NoLook.hi A.e_NoLook.hf (ok_NoLook___init__ A) (hr.mono (by decide)) A.kb_NoLook___init__ (by rfl) A.e_NoLook.hm (pxk_cons (px_var (pv 0)) pxk_nil) (fun _ _ => rfl) gok_id)))) (pxa_cons (px_F (po_1 (g_fdv K "value") (fun h => kFdV K h) (px_F (po_mkE A.e_NoLook.T A.e_NoLook.hi A.e_NoLook.hf (ok_NoLook___init__ A) (hr.mono (by decide)) A.e_NoLook.hb (by rfl) A.e_NoLook.hm (pxa_cons (px_var (pv 0)) pxa_nil))))) (pxa_cons px_str pxa_nil)))))) pxa_nil))
      (pxb_cons (pxs_app (ee := .Name "" ⟨0, 0, 0, 0⟩) (fun h => ps_expr (pe_bm PySem.F.plainAttrs_list PySem.F.slot_list_append PySem.F.type_list_append mt_append (pv 1) h)) (pxa_cons (px_F (po_tup (pxa_cons (px_F (po_mkE0 bValue A.x0_InvalidSchema A.g_InvalidSchema A.kc_InvalidSchema (by rfl))) (pxa_cons (px_var (pv 0)) (pxa_cons (px_var (pv 0)) (pxa_cons px_str pxa_nil)))))) pxa_nil))
      (pxb_cons (pxs_app (ee := .Name "" ⟨0, 0, 0, 0⟩) (fun h => ps_expr (pe_bm PySem.F.plainAttrs_list PySem.F.slot_list_append PySem.F.type_list_append mt_append (pv 1) h)) (pxa_cons (px_F (po_tup (pxa_cons (px_F (po_mkE0 bValue A.x0_OtherSchema A.g_OtherSchema A.kc_OtherSchema (by rfl))) (pxa_cons (px_var (pv 0)) (pxa_cons (px_var (pv 0)) (pxa_cons px_str pxa_nil)))))) pxa_nil))
      (pxb_cons (pxs_app (ee := .Name "" ⟨0, 0, 0, 0⟩) (fun h => ps_expr (pe_bm PySem.F.plainAttrs_list PySem.F.slot_list_append PySem.F.type_list_append mt_append (pv 1) h)) (pxa_cons (px_F (po_tup (pxa_cons (px_F (po_mkE0 bValue A.x0_InvalidPair A.g_InvalidPair A.kc_InvalidPair (by rfl))) (pxa_cons (px_var (pv 0)) (pxa_cons (px_var (pv 0)) (pxa_cons px_str pxa_nil)))))) pxa_nil))
      (pxb_cons (pxs_app (ee := .Name "" ⟨0, 0, 0, 0⟩) (fun h => ps_expr (pe_bm PySem.F.plainAttrs_list PySem.F.slot_list_append PySem.F.type_list_append mt_append (pv 1) h)) (pxa_cons (px_F (po_tup (pxa_cons (px_F (po_mkE0 bValue A.x0_NoLine A.g_NoLine A.kc_NoLine (by rfl))) (pxa_cons (px_var (pv 0)) (pxa_cons (px_var (pv 0)) (pxa_cons px_str pxa_nil)))))) pxa_nil))
      (pxb_cons (pxs_app (ee := .Name "" ⟨0, 0, 0, 0⟩) (fun h => ps_expr (pe_bm PySem.F.plainAttrs_list PySem.F.slot_list_append PySem.F.type_list_append mt_append (pv 1) h)) (pxa_cons (px_F (po_tup (pxa_cons (px_F (po_mkE0 bLookup A.x0_Nothing A.g_Nothing A.kc_Nothing (by rfl))) (pxa_cons (px_var (pv 0)) (pxa_cons (px_var (pv 0)) (pxa_cons px_str pxa_nil)))))) pxa_nil))
      (pxb_cons (pxs_app (ee := .Name "" ⟨0, 0, 0, 0⟩) (fun h => ps_expr (pe_bm PySem.F.plainAttrs_list PySem.F.slot_list_append PySem.F.type_list_append mt_append (pv 1) h)) (pxa_cons (px_F (po_tup (pxa_cons (px_F (po_mkE0 bRuntime A.x0_NeverFits A.g_NeverFits A.kc_NeverFits (by rfl))) (pxa_cons (px_var (pv 0)) (pxa_cons (px_var (pv 0)) (pxa_cons px_str pxa_nil)))))) pxa_nil))
      (pxb_one (pxs_ret (po_U (px_var (pv 1))))))))))))))))))))))))))))))))
/-! _law_classes -/
def b__law_classes (K : PySem.W.Frag) (cs : Cs) : Sx :=
    (sSeq (sSetO 1 (xLst xNil))
    (sSeq (sExt 1 (xF (xLst (xCons (xF (xB (isvG K) (xCons (xV 0) (xCons (xC (.cls cs.InvalidTable)) xNil)))) (xCons (xF (xB (isvG K) (xCons (xV 0) (xCons (xC (.cls cs.InvalidSchema)) xNil)))) xNil)))))
    (sSeq (sExt 1 (xF (xLst (xCons (xF (xB (isvG K) (xCons (xV 0) (xCons (xC (.cls cs.InvalidRow)) xNil)))) (xCons (xF (xB (isvG K) (xCons (xV 0) (xCons (xC (.cls cs.OtherSchema)) xNil)))) xNil)))))
    (sSeq (sExt 1 (xF (xLst (xCons (xF (xB (isvG K) (xCons (xV 0) (xCons (xC (.cls cs.InvalidRule)) xNil)))) (xCons (xF (xB (isvG K) (xCons (xV 0) (xCons (xC (.cls cs.Misfit)) xNil)))) xNil)))))
    (sSeq (sExt 1 (xF (xLst (xCons (xF (xB (isvG K) (xCons (xV 0) (xCons (xC (.cls cs.Circle)) xNil)))) (xCons (xF (xB (isvG K) (xCons (xV 0) (xCons (xC (.cls cs.InvalidFact)) xNil)))) xNil)))))
    (sSeq (sExt 1 (xF (xLst (xCons (xF (xB (isvG K) (xCons (xV 0) (xCons (xC (.cls cs.InvalidChange)) xNil)))) (xCons (xF (xB (isvG K) (xCons (xV 0) (xCons (xC (.cls cs.InvalidAnswer)) xNil)))) xNil)))))
    (sSeq (sExt 1 (xF (xLst (xCons (xF (xB (isvG K) (xCons (xV 0) (xCons (xC (.cls cs.InvalidTemplate)) xNil)))) (xCons (xF (xB (isvG K) (xCons (xV 0) (xCons (xC (.cls cs.InvalidNames)) xNil)))) xNil)))))
    (sSeq (sExt 1 (xF (xLst (xCons (xF (xB (isvG K) (xCons (xV 0) (xCons (xC (.cls cs.InvalidPair)) xNil)))) (xCons (xF (xB (isvG K) (xCons (xV 0) (xCons (xC (.cls cs.InvalidLimit)) xNil)))) xNil)))))
    (sSeq (sExt 1 (xF (xLst (xCons (xF (xB (isvG K) (xCons (xV 0) (xCons (xC (.cls cs.Unreadable)) xNil)))) (xCons (xF (xB (isvG K) (xCons (xV 0) (xCons (xC (.cls cs.NoLine)) xNil)))) xNil)))))
    (sSeq (sExt 1 (xF (xLst (xCons (xF (xB (isvG K) (xCons (xV 0) (xCons (xC (.cls cs.UnknownTable)) xNil)))) (xCons (xF (xB (isvG K) (xCons (xV 0) (xCons (xC (.cls cs.UnknownColumn)) xNil)))) xNil)))))
    (sSeq (sExt 1 (xF (xLst (xCons (xF (xB (isvG K) (xCons (xV 0) (xCons (xC (.cls cs.OutOfRange)) xNil)))) (xCons (xF (xB (isvG K) (xCons (xV 0) (xCons (xC (.cls cs.NoAnswer)) xNil)))) xNil)))))
    (sSeq (sExt 1 (xF (xLst (xCons (xF (xB (isvG K) (xCons (xV 0) (xCons (xC (.cls cs.NoCase)) xNil)))) (xCons (xF (xB (isvG K) (xCons (xV 0) (xCons (xC (.cls cs.NoBranch)) xNil)))) xNil)))))
    (sSeq (sExt 1 (xF (xLst (xCons (xF (xB (isvG K) (xCons (xV 0) (xCons (xC (.cls cs.Nothing)) xNil)))) (xCons (xF (xB (isvG K) (xCons (xV 0) (xCons (xC (.cls cs.TooMany)) xNil)))) xNil)))))
    (sSeq (sExt 1 (xF (xLst (xCons (xF (xB (isvG K) (xCons (xV 0) (xCons (xC (.cls cs.TooDear)) xNil)))) (xCons (xF (xB (isvG K) (xCons (xV 0) (xCons (xC (.cls cs.Broken)) xNil)))) xNil)))))
    (sSeq (sExt 1 (xF (xLst (xCons (xF (xB (isvG K) (xCons (xV 0) (xCons (xC (.cls cs.Unfit)) xNil)))) (xCons (xF (xB (isvG K) (xCons (xV 0) (xCons (xC (.cls cs.NeverFits)) xNil)))) xNil)))))
    (sSeq (sExt 1 (xF (xLst (xCons (xF (xB (isvG K) (xCons (xV 0) (xCons (xC (.cls cs.Refused)) xNil)))) (xCons (xF (xB (isvG K) (xCons (xV 0) (xCons (xC (.cls cs.LookFailed)) xNil)))) (xCons (xF (xB (isvG K) (xCons (xV 0) (xCons (xC (.cls cs.NoLook)) xNil)))) xNil))))))
    (sRet (xU (xV 1)))))))))))))))))))
def m__law_classes (K : PySem.W.Frag) (cs : Cs) : MF := mk false 2 (b__law_classes K cs)
theorem ok__law_classes (A : All P K mg cs) : FnOk P w K mg base (L2.CX P w) 1 A.a__law_classes A.d__law_classes p__law_classes (spM false 1 (m__law_classes K cs)) := by
  refine fnM A.F__law_classes sc__law_classes (by decide) fun cdv A' outer s H E hr => ?_
  have hu := hu_of hr
  have hu0 := hr.units0
  have hu64 := hr.units
  have hu65 := hr.u65
  exact (pxb_cons (pxs_setO (fun h => ps_set (i := 1) sc__law_classes.nd rfl (Or.inl rfl) h) (po_lst pxa_nil))
      (pxb_cons (pxs_ext (fun h => ps_expr (pe_bm PySem.F.plainAttrs_list PySem.F.slot_list_extend PySem.F.type_list_extend mt_extend (pv 1) h)) (pxa_cons (px_F (po_lst (pxa_cons (px_F (po_b (g_isv K) (fun h => pe_callB (cIsv K) (by rfl) A.b_isinstance (by decide +kernel) h) (pxa_cons (px_var (pv 0)) (pxa_cons (px_C (pe_glob (v := .ref cs.InvalidTable) (by rfl) A.g_InvalidTable rfl) fun _ _ _ => .cls _) pxa_nil)))) (pxa_cons (px_F (po_b (g_isv K) (fun h => pe_callB (cIsv K) (by rfl) A.b_isinstance (by decide +kernel) h) (pxa_cons (px_var (pv 0)) (pxa_cons (px_C (pe_glob (v := .ref cs.InvalidSchema) (by rfl) A.g_InvalidSchema rfl) fun _ _ _ => .cls _) pxa_nil)))) pxa_nil)))) pxa_nil))
      (pxb_cons (pxs_ext (fun h => ps_expr (pe_bm PySem.F.plainAttrs_list PySem.F.slot_list_extend PySem.F.type_list_extend mt_extend (pv 1) h)) (pxa_cons (px_F (po_lst (pxa_cons (px_F (po_b (g_isv K) (fun h => pe_callB (cIsv K) (by rfl) A.b_isinstance (by decide +kernel) h) (pxa_cons (px_var (pv 0)) (pxa_cons (px_C (pe_glob (v := .ref cs.InvalidRow) (by rfl) A.g_InvalidRow rfl) fun _ _ _ => .cls _) pxa_nil)))) (pxa_cons (px_F (po_b (g_isv K) (fun h => pe_callB (cIsv K) (by rfl) A.b_isinstance (by decide +kernel) h) (pxa_cons (px_var (pv 0)) (pxa_cons (px_C (pe_glob (v := .ref cs.OtherSchema) (by rfl) A.g_OtherSchema rfl) fun _ _ _ => .cls _) pxa_nil)))) pxa_nil)))) pxa_nil))
      (pxb_cons (pxs_ext (fun h => ps_expr (pe_bm PySem.F.plainAttrs_list PySem.F.slot_list_extend PySem.F.type_list_extend mt_extend (pv 1) h)) (pxa_cons (px_F (po_lst (pxa_cons (px_F (po_b (g_isv K) (fun h => pe_callB (cIsv K) (by rfl) A.b_isinstance (by decide +kernel) h) (pxa_cons (px_var (pv 0)) (pxa_cons (px_C (pe_glob (v := .ref cs.InvalidRule) (by rfl) A.g_InvalidRule rfl) fun _ _ _ => .cls _) pxa_nil)))) (pxa_cons (px_F (po_b (g_isv K) (fun h => pe_callB (cIsv K) (by rfl) A.b_isinstance (by decide +kernel) h) (pxa_cons (px_var (pv 0)) (pxa_cons (px_C (pe_glob (v := .ref cs.Misfit) (by rfl) A.g_Misfit rfl) fun _ _ _ => .cls _) pxa_nil)))) pxa_nil)))) pxa_nil))
      (pxb_cons (pxs_ext (fun h => ps_expr (pe_bm PySem.F.plainAttrs_list PySem.F.slot_list_extend PySem.F.type_list_extend mt_extend (pv 1) h)) (pxa_cons (px_F (po_lst (pxa_cons (px_F (po_b (g_isv K) (fun h => pe_callB (cIsv K) (by rfl) A.b_isinstance (by decide +kernel) h) (pxa_cons (px_var (pv 0)) (pxa_cons (px_C (pe_glob (v := .ref cs.Circle) (by rfl) A.g_Circle rfl) fun _ _ _ => .cls _) pxa_nil)))) (pxa_cons (px_F (po_b (g_isv K) (fun h => pe_callB (cIsv K) (by rfl) A.b_isinstance (by decide +kernel) h) (pxa_cons (px_var (pv 0)) (pxa_cons (px_C (pe_glob (v := .ref cs.InvalidFact) (by rfl) A.g_InvalidFact rfl) fun _ _ _ => .cls _) pxa_nil)))) pxa_nil)))) pxa_nil))
      (pxb_cons (pxs_ext (fun h => ps_expr (pe_bm PySem.F.plainAttrs_list PySem.F.slot_list_extend PySem.F.type_list_extend mt_extend (pv 1) h)) (pxa_cons (px_F (po_lst (pxa_cons (px_F (po_b (g_isv K) (fun h => pe_callB (cIsv K) (by rfl) A.b_isinstance (by decide +kernel) h) (pxa_cons (px_var (pv 0)) (pxa_cons (px_C (pe_glob (v := .ref cs.InvalidChange) (by rfl) A.g_InvalidChange rfl) fun _ _ _ => .cls _) pxa_nil)))) (pxa_cons (px_F (po_b (g_isv K) (fun h => pe_callB (cIsv K) (by rfl) A.b_isinstance (by decide +kernel) h) (pxa_cons (px_var (pv 0)) (pxa_cons (px_C (pe_glob (v := .ref cs.InvalidAnswer) (by rfl) A.g_InvalidAnswer rfl) fun _ _ _ => .cls _) pxa_nil)))) pxa_nil)))) pxa_nil))
      (pxb_cons (pxs_ext (fun h => ps_expr (pe_bm PySem.F.plainAttrs_list PySem.F.slot_list_extend PySem.F.type_list_extend mt_extend (pv 1) h)) (pxa_cons (px_F (po_lst (pxa_cons (px_F (po_b (g_isv K) (fun h => pe_callB (cIsv K) (by rfl) A.b_isinstance (by decide +kernel) h) (pxa_cons (px_var (pv 0)) (pxa_cons (px_C (pe_glob (v := .ref cs.InvalidTemplate) (by rfl) A.g_InvalidTemplate rfl) fun _ _ _ => .cls _) pxa_nil)))) (pxa_cons (px_F (po_b (g_isv K) (fun h => pe_callB (cIsv K) (by rfl) A.b_isinstance (by decide +kernel) h) (pxa_cons (px_var (pv 0)) (pxa_cons (px_C (pe_glob (v := .ref cs.InvalidNames) (by rfl) A.g_InvalidNames rfl) fun _ _ _ => .cls _) pxa_nil)))) pxa_nil)))) pxa_nil))
      (pxb_cons (pxs_ext (fun h => ps_expr (pe_bm PySem.F.plainAttrs_list PySem.F.slot_list_extend PySem.F.type_list_extend mt_extend (pv 1) h)) (pxa_cons (px_F (po_lst (pxa_cons (px_F (po_b (g_isv K) (fun h => pe_callB (cIsv K) (by rfl) A.b_isinstance (by decide +kernel) h) (pxa_cons (px_var (pv 0)) (pxa_cons (px_C (pe_glob (v := .ref cs.InvalidPair) (by rfl) A.g_InvalidPair rfl) fun _ _ _ => .cls _) pxa_nil)))) (pxa_cons (px_F (po_b (g_isv K) (fun h => pe_callB (cIsv K) (by rfl) A.b_isinstance (by decide +kernel) h) (pxa_cons (px_var (pv 0)) (pxa_cons (px_C (pe_glob (v := .ref cs.InvalidLimit) (by rfl) A.g_InvalidLimit rfl) fun _ _ _ => .cls _) pxa_nil)))) pxa_nil)))) pxa_nil))
      (pxb_cons (pxs_ext (fun h => ps_expr (pe_bm PySem.F.plainAttrs_list PySem.F.slot_list_extend PySem.F.type_list_extend mt_extend (pv 1) h)) (pxa_cons (px_F (po_lst (pxa_cons (px_F (po_b (g_isv K) (fun h => pe_callB (cIsv K) (by rfl) A.b_isinstance (by decide +kernel) h) (pxa_cons (px_var (pv 0)) (pxa_cons (px_C (pe_glob (v := .ref cs.Unreadable) (by rfl) A.g_Unreadable rfl) fun _ _ _ => .cls _) pxa_nil)))) (pxa_cons (px_F (po_b (g_isv K) (fun h => pe_callB (cIsv K) (by rfl) A.b_isinstance (by decide +kernel) h) (pxa_cons (px_var (pv 0)) (pxa_cons (px_C (pe_glob (v := .ref cs.NoLine) (by rfl) A.g_NoLine rfl) fun _ _ _ => .cls _) pxa_nil)))) pxa_nil)))) pxa_nil))
      (pxb_cons (pxs_ext (fun h => ps_expr (pe_bm PySem.F.plainAttrs_list PySem.F.slot_list_extend PySem.F.type_list_extend mt_extend (pv 1) h)) (pxa_cons (px_F (po_lst (pxa_cons (px_F (po_b (g_isv K) (fun h => pe_callB (cIsv K) (by rfl) A.b_isinstance (by decide +kernel) h) (pxa_cons (px_var (pv 0)) (pxa_cons (px_C (pe_glob (v := .ref cs.UnknownTable) (by rfl) A.g_UnknownTable rfl) fun _ _ _ => .cls _) pxa_nil)))) (pxa_cons (px_F (po_b (g_isv K) (fun h => pe_callB (cIsv K) (by rfl) A.b_isinstance (by decide +kernel) h) (pxa_cons (px_var (pv 0)) (pxa_cons (px_C (pe_glob (v := .ref cs.UnknownColumn) (by rfl) A.g_UnknownColumn rfl) fun _ _ _ => .cls _) pxa_nil)))) pxa_nil)))) pxa_nil))
      (pxb_cons (pxs_ext (fun h => ps_expr (pe_bm PySem.F.plainAttrs_list PySem.F.slot_list_extend PySem.F.type_list_extend mt_extend (pv 1) h)) (pxa_cons (px_F (po_lst (pxa_cons (px_F (po_b (g_isv K) (fun h => pe_callB (cIsv K) (by rfl) A.b_isinstance (by decide +kernel) h) (pxa_cons (px_var (pv 0)) (pxa_cons (px_C (pe_glob (v := .ref cs.OutOfRange) (by rfl) A.g_OutOfRange rfl) fun _ _ _ => .cls _) pxa_nil)))) (pxa_cons (px_F (po_b (g_isv K) (fun h => pe_callB (cIsv K) (by rfl) A.b_isinstance (by decide +kernel) h) (pxa_cons (px_var (pv 0)) (pxa_cons (px_C (pe_glob (v := .ref cs.NoAnswer) (by rfl) A.g_NoAnswer rfl) fun _ _ _ => .cls _) pxa_nil)))) pxa_nil)))) pxa_nil))
      (pxb_cons (pxs_ext (fun h => ps_expr (pe_bm PySem.F.plainAttrs_list PySem.F.slot_list_extend PySem.F.type_list_extend mt_extend (pv 1) h)) (pxa_cons (px_F (po_lst (pxa_cons (px_F (po_b (g_isv K) (fun h => pe_callB (cIsv K) (by rfl) A.b_isinstance (by decide +kernel) h) (pxa_cons (px_var (pv 0)) (pxa_cons (px_C (pe_glob (v := .ref cs.NoCase) (by rfl) A.g_NoCase rfl) fun _ _ _ => .cls _) pxa_nil)))) (pxa_cons (px_F (po_b (g_isv K) (fun h => pe_callB (cIsv K) (by rfl) A.b_isinstance (by decide +kernel) h) (pxa_cons (px_var (pv 0)) (pxa_cons (px_C (pe_glob (v := .ref cs.NoBranch) (by rfl) A.g_NoBranch rfl) fun _ _ _ => .cls _) pxa_nil)))) pxa_nil)))) pxa_nil))
      (pxb_cons (pxs_ext (fun h => ps_expr (pe_bm PySem.F.plainAttrs_list PySem.F.slot_list_extend PySem.F.type_list_extend mt_extend (pv 1) h)) (pxa_cons (px_F (po_lst (pxa_cons (px_F (po_b (g_isv K) (fun h => pe_callB (cIsv K) (by rfl) A.b_isinstance (by decide +kernel) h) (pxa_cons (px_var (pv 0)) (pxa_cons (px_C (pe_glob (v := .ref cs.Nothing) (by rfl) A.g_Nothing rfl) fun _ _ _ => .cls _) pxa_nil)))) (pxa_cons (px_F (po_b (g_isv K) (fun h => pe_callB (cIsv K) (by rfl) A.b_isinstance (by decide +kernel) h) (pxa_cons (px_var (pv 0)) (pxa_cons (px_C (pe_glob (v := .ref cs.TooMany) (by rfl) A.g_TooMany rfl) fun _ _ _ => .cls _) pxa_nil)))) pxa_nil)))) pxa_nil))
      (pxb_cons (pxs_ext (fun h => ps_expr (pe_bm PySem.F.plainAttrs_list PySem.F.slot_list_extend PySem.F.type_list_extend mt_extend (pv 1) h)) (pxa_cons (px_F (po_lst (pxa_cons (px_F (po_b (g_isv K) (fun h => pe_callB (cIsv K) (by rfl) A.b_isinstance (by decide +kernel) h) (pxa_cons (px_var (pv 0)) (pxa_cons (px_C (pe_glob (v := .ref cs.TooDear) (by rfl) A.g_TooDear rfl) fun _ _ _ => .cls _) pxa_nil)))) (pxa_cons (px_F (po_b (g_isv K) (fun h => pe_callB (cIsv K) (by rfl) A.b_isinstance (by decide +kernel) h) (pxa_cons (px_var (pv 0)) (pxa_cons (px_C (pe_glob (v := .ref cs.Broken) (by rfl) A.g_Broken rfl) fun _ _ _ => .cls _) pxa_nil)))) pxa_nil)))) pxa_nil))
      (pxb_cons (pxs_ext (fun h => ps_expr (pe_bm PySem.F.plainAttrs_list PySem.F.slot_list_extend PySem.F.type_list_extend mt_extend (pv 1) h)) (pxa_cons (px_F (po_lst (pxa_cons (px_F (po_b (g_isv K) (fun h => pe_callB (cIsv K) (by rfl) A.b_isinstance (by decide +kernel) h) (pxa_cons (px_var (pv 0)) (pxa_cons (px_C (pe_glob (v := .ref cs.Unfit) (by rfl) A.g_Unfit rfl) fun _ _ _ => .cls _) pxa_nil)))) (pxa_cons (px_F (po_b (g_isv K) (fun h => pe_callB (cIsv K) (by rfl) A.b_isinstance (by decide +kernel) h) (pxa_cons (px_var (pv 0)) (pxa_cons (px_C (pe_glob (v := .ref cs.NeverFits) (by rfl) A.g_NeverFits rfl) fun _ _ _ => .cls _) pxa_nil)))) pxa_nil)))) pxa_nil))
      (pxb_cons (pxs_ext (fun h => ps_expr (pe_bm PySem.F.plainAttrs_list PySem.F.slot_list_extend PySem.F.type_list_extend mt_extend (pv 1) h)) (pxa_cons (px_F (po_lst (pxa_cons (px_F (po_b (g_isv K) (fun h => pe_callB (cIsv K) (by rfl) A.b_isinstance (by decide +kernel) h) (pxa_cons (px_var (pv 0)) (pxa_cons (px_C (pe_glob (v := .ref cs.Refused) (by rfl) A.g_Refused rfl) fun _ _ _ => .cls _) pxa_nil)))) (pxa_cons (px_F (po_b (g_isv K) (fun h => pe_callB (cIsv K) (by rfl) A.b_isinstance (by decide +kernel) h) (pxa_cons (px_var (pv 0)) (pxa_cons (px_C (pe_glob (v := .ref cs.LookFailed) (by rfl) A.g_LookFailed rfl) fun _ _ _ => .cls _) pxa_nil)))) (pxa_cons (px_F (po_b (g_isv K) (fun h => pe_callB (cIsv K) (by rfl) A.b_isinstance (by decide +kernel) h) (pxa_cons (px_var (pv 0)) (pxa_cons (px_C (pe_glob (v := .ref cs.NoLook) (by rfl) A.g_NoLook rfl) fun _ _ _ => .cls _) pxa_nil)))) pxa_nil))))) pxa_nil))
      (pxb_one (pxs_ret (po_U (px_var (pv 1)))))))))))))))))))))
/-! _law_sorts -/
def b__law_sorts (K : PySem.W.Frag) (cs : Cs) : Sx :=
    (sSeq (sSet 1 (xLst (xCons (xF (xB (isvG K) (xCons (xV 0) (xCons (xC (.ty "ValueError")) xNil)))) (xCons (xF (xB (isvG K) (xCons (xV 0) (xCons (xC (.ty "LookupError")) xNil)))) xNil))))
    (sSeq (sSet 1 (xOp addG (xV 1) (xF (xLst (xCons (xF (xB (isvG K) (xCons (xV 0) (xCons (xC (.ty "OverflowError")) xNil)))) (xCons (xF (xB (isvG K) (xCons (xV 0) (xCons (xC (.ty "RuntimeError")) xNil)))) xNil))))))
    (sSeq (sIf (xT (xF (xB (isvG K) (xCons (xV 0) (xCons (xF (xTup (xCons (xC (.ty "IndexError")) (xCons (xC (.ty "KeyError")) (xCons (xC (.ty "NotImplementedError")) xNil))))) xNil))))) (sRet (xU (xF (xLst (xCons (xC (.str "deeper")) xNil))))) sNx)
    (sRet (xU (xF (xLc (iZp (xCons (xF (xLst (xCons (xC (.str "value")) (xCons (xC (.str "lookup")) (xCons (xC (.str "overflow")) (xCons (xC (.str "runtime")) xNil)))))) (xCons (xV 1) xNil))) (gT 2 (gsC (gN 2) (gsC (gN 3) gsN))) (xT (xV 3)) (xV 2) [2, 3])))))))
def m__law_sorts (K : PySem.W.Frag) (cs : Cs) : MF := mk false 4 (b__law_sorts K cs)
theorem ok__law_sorts (A : All P K mg cs) : FnOk P w K mg base (L2.CX P w) 1 A.a__law_sorts A.d__law_sorts p__law_sorts (spM false 1 (m__law_sorts K cs)) := by
  refine fnM A.F__law_sorts sc__law_sorts (by decide) fun cdv A' outer s H E hr => ?_
  have hu := hu_of hr
  have hu0 := hr.units0
  have hu64 := hr.units
  have hu65 := hr.u65
  exact (pxb_cons (pxs_set (fun h => ps_set (i := 1) sc__law_sorts.nd rfl (Or.inl rfl) h) (po_lst (pxa_cons (px_F (po_b (g_isv K) (fun h => pe_callB (cIsv K) (by rfl) A.b_isinstance (by decide +kernel) h) (pxa_cons (px_var (pv 0)) (pxa_cons (px_C (pe_bltn (v := .ty "ValueError") (by rfl) A.b_ValueError (by decide +kernel) rfl) fun _ _ _ => .ty _) pxa_nil)))) (pxa_cons (px_F (po_b (g_isv K) (fun h => pe_callB (cIsv K) (by rfl) A.b_isinstance (by decide +kernel) h) (pxa_cons (px_var (pv 0)) (pxa_cons (px_C (pe_bltn (v := .ty "LookupError") (by rfl) A.b_LookupError (by decide +kernel) rfl) fun _ _ _ => .ty _) pxa_nil)))) pxa_nil))))
      (pxb_cons (pxs_set (fun h => ps_set (i := 1) sc__law_sorts.nd rfl (Or.inl rfl) h) (po_2 (g_add K) (fun h1 h2 => pe_op (op_addA K) h1 h2) (px_var (pv 1)) (px_F (po_lst (pxa_cons (px_F (po_b (g_isv K) (fun h => pe_callB (cIsv K) (by rfl) A.b_isinstance (by decide +kernel) h) (pxa_cons (px_var (pv 0)) (pxa_cons (px_C (pe_bltn (v := .ty "OverflowError") (by rfl) A.b_OverflowError (by decide +kernel) rfl) fun _ _ _ => .ty _) pxa_nil)))) (pxa_cons (px_F (po_b (g_isv K) (fun h => pe_callB (cIsv K) (by rfl) A.b_isinstance (by decide +kernel) h) (pxa_cons (px_var (pv 0)) (pxa_cons (px_C (pe_bltn (v := .ty "RuntimeError") (by rfl) A.b_RuntimeError (by decide +kernel) rfl) fun _ _ _ => .ty _) pxa_nil)))) pxa_nil))))))
      (pxb_cons (pxs_if (pxt_val (px_F (po_b (g_isv K) (fun h => pe_callB (cIsv K) (by rfl) A.b_isinstance (by decide +kernel) h) (pxa_cons (px_var (pv 0)) (pxa_cons (px_F (po_tup (pxa_cons (px_C (pe_bltn (v := .ty "IndexError") (by rfl) A.b_IndexError (by decide +kernel) rfl) fun _ _ _ => .ty _) (pxa_cons (px_C (pe_bltn (v := .ty "KeyError") (by rfl) A.b_KeyError (by decide +kernel) rfl) fun _ _ _ => .ty _) (pxa_cons (px_C (pe_bltn (v := .ty "NotImplementedError") (by rfl) A.b_NotImplementedError (by decide +kernel) rfl) fun _ _ _ => .ty _) pxa_nil))))) pxa_nil))))) (pxb_one (pxs_ret (po_U (px_F (po_lst (pxa_cons px_str pxa_nil)))))) pxb_nil)
      (pxb_one (pxs_ret (po_U (px_F (po_lc (own := [("_law_one", 2), ("_law_flag", 3)]) (is := [2, 3]) rfl sc__law_sorts.nd (pxi_zp (fun h => RZ.pi_zipA (by rfl) A.b_zip h) (pxa_cons (px_F (po_lst (pxa_cons px_str (pxa_cons px_str (pxa_cons px_str (pxa_cons px_str pxa_nil)))))) (pxa_cons (px_var (pv 1)) pxa_nil))) (blkOk_by (own := [("_law_one", 2), ("_law_flag", 3)]) (N := N__law_sorts) (sc := defScope s__law_sorts) (by decide +kernel)) (by decide) (fun _ _ _ _ _ => (pxg_tup rfl (pxgs_cons (pxg_name (pg_name (i := 2) sc__law_sorts.nd rfl (Or.inl rfl))) (pxgs_cons (pxg_name (pg_name (i := 3) sc__law_sorts.nd rfl (Or.inl rfl))) pxgs_nil)))) (fun _ _ _ _ _ => (pxts_one (pxt_val (px_var (pv 3))))) (fun _ _ _ _ _ => (px_var (pv 2)))))))))))
/-! law -/
def b_law (K : PySem.W.Frag) (cs : Cs) : Sx :=
    (sSeq (sSet 1 (xE true 1 (m__law_pen K) (xCons (xV 0) xNil)))
    (sSeq (sFor (iR1 (xCons (xF (xOp addG (xC (.int 3)) (xF (xB minG (xCons (xC (.int 5)) (xCons (xF (xB (lenScrG K) (xCons (xV 0) xNil))) xNil)))))) xNil)) (gN 2) (sSeq (sSet 6 (xE true 1 (m__law_any_value K cs) (xCons (xV 1) xNil)))
    (sSeq (sSet 7 (xB reprD (xCons (xV 6) xNil)))
    (sSeq (sSet 8 (xOp addG (xF (xP 1 (m__law_some_errors K cs) (xCons (xV 6) xNil))) (xF (xP 1 (m__law_other_errors K cs) (xCons (xV 6) xNil)))))
    (sFor (iA (xV 8)) (gT 4 (gsC (gN 4) (gsC (gN 9) (gsC (gN 10) (gsC (gN 11) gsN))))) (sSeq (sIf (xOrT (xTO (xOp neS (xF (xB reprR (xCons (xF (xLst (xCons (xV 9) (xCons (xV 10) xNil)))) xNil))) (xF (xB reprR (xCons (xF (xLst (xCons (xV 6) (xCons (xV 6) xNil)))) xNil))))) (xTO (xOp neG (xF (xP 1 (m__law_sorts K cs) (xCons (xV 4) xNil))) (xF (xLst (xCons (xV 11) xNil)))))) (sRet (xU (xC (.bl false)))) sNx)
    (sIf (xOrT (xTO (xOp neG (xF (xCnt (xF (xP 1 (m__law_classes K cs) (xCons (xV 4) xNil))))) (xC (.int 1)))) (xTO (xOp neS (xF (xB reprD (xCons (xV 6) xNil))) (xV 7)))) (sRet (xU (xC (.bl false)))) sNx)))))))
    (sSeq (sSetO 3 (xLst (xCons (xC (.int 1)) xNil)))
    (sSeq (sLate 3 4 cs.InvalidRow "value" 2)
    (sSeq (sIf (xTO (xOp neG (xF (xUn (fdvG K "value") (xV 4))) (xF (xLst (xCons (xC (.int 1)) (xCons (xC (.int 2)) xNil)))))) (sRet (xU (xC (.bl false)))) sNx)
    (sSeq (sSet 5 (xLst (xCons (xC (.int 8)) (xCons (xC (.int 4)) (xCons (xC (.int 3)) (xCons (xC (.int 5)) (xCons (xC (.int 2)) (xCons (xC (.int 3)) (xCons (xC (.int 3)) xNil)))))))))
    (sSeq (sIf (xTO (xOp neS (xF (xB reprR (xCons (xV 5) xNil))) (xC (.str "[8, 4, 3, 5, 2, 3, 3]")))) (sRet (xU (xC (.bl false)))) sNx)
    (sRet (xU (xF (xOp eqG (xF (xB reprR (xCons (xF (xLst (xCons (xC (.int 16)) (xCons (xC (.int 6)) (xCons (xC (.int 200)) (xCons (xC (.int 8)) (xCons (xC (.int 4)) xNil))))))) xNil))) (xC (.str "[16, 6, 200, 8, 4]")))))))))))))
def m_law (K : PySem.W.Frag) (cs : Cs) : MF := mk true 12 (b_law K cs)
theorem ok_law (A : All P K mg cs) (hsb : ∃ o, base.get? sysModules = some o) : FnOkG P w K mg base (L2.CX P w) 6 A.a_law A.d_law p_law (spM true 1 (m_law K cs)) := by
  refine fnMG A.F_law sc_law (by decide) fun cdv A' outer s H E hgd hr => ?_
  have hu := hu_of hr
  have hu0 := hr.units0
  have hu64 := hr.units
  have hu65 := hr.u65
  exact (pxb_cons (pxs_set (fun h => ps_set (i := 1) sc_law.nd rfl (Or.inl rfl) h) (po_E (call_sp (ok__law_pen A) (hr.mono (by decide)) rfl A.D__law_pen.m A.D__law_pen.k A.D__law_pen.b) (pxa_cons (px_var (pv 0)) pxa_nil)))
      (pxb_cons (pxs_for (fun h1 h2 h3 => ps_for (passes_of rfl) rfl h1 h2 h3) (pxi_r1 (fun h => pi_range1 (by rfl) A.b_range h) (pxa_cons (px_F (po_2 (g_add K) (fun h1 h2 => pe_op (op_addA K) h1 h2) px_int (px_F (po_b g_min (fun h => pe_callB (call_min2Nu rfl) (by rfl) A.b_min (by decide +kernel) h) (pxa_cons px_int (pxa_cons (px_F (po_b (g_lenScr K) (fun h => pe_callB (cLen K) (by rfl) A.b_len (by decide +kernel) h) (pxa_cons (px_var (pv 0)) pxa_nil))) pxa_nil)))))) pxa_nil)) (pxg_name (pg_name (i := 2) sc_law.nd rfl (Or.inl rfl))) (pxb_cons (pxs_set (fun h => ps_set (i := 6) sc_law.nd rfl (Or.inl rfl) h) (po_E (call_sp (ok__law_any_value A) (hr.mono (by decide)) rfl A.D__law_any_value.m A.D__law_any_value.k A.D__law_any_value.b) (pxa_cons (px_var (pv 1)) pxa_nil)))
      (pxb_cons (pxs_set (fun h => ps_set (i := 7) sc_law.nd rfl (Or.inl rfl) h) (po_b g_reprD (fun h => pe_callB (call_or call_repr0 (call_reprR hgd hu64 hsb)) (by rfl) A.b_repr (by decide +kernel) h) (pxa_cons (px_var (pv 6)) pxa_nil)))
      (pxb_cons (pxs_set (fun h => ps_set (i := 8) sc_law.nd rfl (Or.inl rfl) h) (po_2 (g_add K) (fun h1 h2 => pe_op (op_addA K) h1 h2) (px_F (po_P (call_sp (ok__law_some_errors A) (hr.mono (by decide)) rfl A.D__law_some_errors.m A.D__law_some_errors.k A.D__law_some_errors.b) (pxa_cons (px_var (pv 6)) pxa_nil))) (px_F (po_P (call_sp (ok__law_other_errors A) (hr.mono (by decide)) rfl A.D__law_other_errors.m A.D__law_other_errors.k A.D__law_other_errors.b) (pxa_cons (px_var (pv 6)) pxa_nil)))))
      (pxb_one (pxs_for (fun h1 h2 h3 => ps_for (passes_of rfl) rfl h1 h2 h3) (pxi_any (px_var (pv 8))) (pxg_tup rfl (pxgs_cons (pxg_name (pg_name (i := 4) sc_law.nd rfl (Or.inl rfl))) (pxgs_cons (pxg_name (pg_name (i := 9) sc_law.nd rfl (Or.inl rfl))) (pxgs_cons (pxg_name (pg_name (i := 10) sc_law.nd rfl (Or.inl rfl))) (pxgs_cons (pxg_name (pg_name (i := 11) sc_law.nd rfl (Or.inl rfl))) pxgs_nil))))) (pxb_cons (pxs_if (pxw_t (pxw_or (pxt_2 g_neS (fun h1 h2 => pt_cmpR op_ne h1 h2 (nomark _)) (px_F (po_b g_reprR (fun h => pe_callB (call_reprR hgd hu64 hsb) (by rfl) A.b_repr (by decide +kernel) h) (pxa_cons (px_F (po_lst (pxa_cons (px_var (pv 9)) (pxa_cons (px_var (pv 10)) pxa_nil)))) pxa_nil))) (px_F (po_b g_reprR (fun h => pe_callB (call_reprR hgd hu64 hsb) (by rfl) A.b_repr (by decide +kernel) h) (pxa_cons (px_F (po_lst (pxa_cons (px_var (pv 6)) (pxa_cons (px_var (pv 6)) pxa_nil)))) pxa_nil)))) (pxw_or1 (pxt_2 (g_ne K) (fun h1 h2 => pt_cmpR (kNeD K hu64) h1 h2 (nomark _)) (px_F (po_P (call_sp (ok__law_sorts A) (hr.mono (by decide)) rfl A.D__law_sorts.m A.D__law_sorts.k A.D__law_sorts.b) (pxa_cons (px_var (pv 4)) pxa_nil))) (px_F (po_lst (pxa_cons (px_var (pv 11)) pxa_nil))))))) (pxb_one (pxs_ret (po_U px_bl))) pxb_nil)
      (pxb_one (pxs_if (pxw_t (pxw_or (pxt_2 (g_ne K) (fun h1 h2 => pt_cmpR (kNeD K hu64) h1 h2 (nomark _)) (px_F (po_cnt (fun h1 h2 => pe_bm PySem.F.plainAttrs_list PySem.F.slot_list_count PySem.F.type_list_count mt_cntB h1 h2) (px_F (po_P (call_sp (ok__law_classes A) (hr.mono (by decide)) rfl A.D__law_classes.m A.D__law_classes.k A.D__law_classes.b) (pxa_cons (px_var (pv 4)) pxa_nil))) pe_bl (fun h => pa_cons h pa_nil))) px_int) (pxw_or1 (pxt_2 g_neS (fun h1 h2 => pt_cmpR op_ne h1 h2 (nomark _)) (px_F (po_b g_reprD (fun h => pe_callB (call_or call_repr0 (call_reprR hgd hu64 hsb)) (by rfl) A.b_repr (by decide +kernel) h) (pxa_cons (px_var (pv 6)) pxa_nil))) (px_var (pv 7)))))) (pxb_one (pxs_ret (po_U px_bl))) pxb_nil)))))))))
      (pxb_cons (pxs_setO (fun h => ps_set (i := 3) sc_law.nd rfl (Or.inl rfl) h) (po_lst (pxa_cons px_int pxa_nil)))
      (pxb_late (i := 3) (fun h => ps_set (i := 4) sc_law.nd rfl (Or.inl rfl) h) (pe_mkV (m := 1) A.e_InvalidRow.T A.e_InvalidRow.hi A.e_InvalidRow.hf (by decide) (ok_InvalidRow___init__ A) (hr.mono (by decide)) A.e_InvalidRow.hb passL rfl A.e_InvalidRow.hm (pa_cons (pv 3) pa_nil)) (ps_expr (pe_bm PySem.F.plainAttrs_list PySem.F.slot_list_append PySem.F.type_list_append mt_append (pv 3) (pa_cons pe_int pa_nil)))
      (pxb_cons (pxs_if (pxt_2 (g_ne K) (fun h1 h2 => pt_cmpR (kNeD K hu64) h1 h2 (nomark _)) (px_F (po_1 (g_fdv K "value") (fun h => kFdV K h) (px_var (pv 4)))) (px_F (po_lst (pxa_cons px_int (pxa_cons px_int pxa_nil))))) (pxb_one (pxs_ret (po_U px_bl))) pxb_nil)
      (pxb_cons (pxs_set (fun h => ps_set (i := 5) sc_law.nd rfl (Or.inl rfl) h) (po_lst (pxa_cons (px_C (pe_glob (v := .int 8) (by rfl) A.k_MAX_WORD.choose_spec ⟨_, rfl⟩) fun _ _ _ => .int _) (pxa_cons (px_C (pe_glob (v := .int 4) (by rfl) A.k_MAX_TABLES.choose_spec ⟨_, rfl⟩) fun _ _ _ => .int _) (pxa_cons (px_C (pe_glob (v := .int 3) (by rfl) A.k_MAX_COLUMNS.choose_spec ⟨_, rfl⟩) fun _ _ _ => .int _) (pxa_cons (px_C (pe_glob (v := .int 5) (by rfl) A.k_MAX_STATEMENTS.choose_spec ⟨_, rfl⟩) fun _ _ _ => .int _) (pxa_cons (px_C (pe_glob (v := .int 2) (by rfl) A.k_MAX_LEAST.choose_spec ⟨_, rfl⟩) fun _ _ _ => .int _) (pxa_cons (px_C (pe_glob (v := .int 3) (by rfl) A.k_MAX_MOST.choose_spec ⟨_, rfl⟩) fun _ _ _ => .int _) (pxa_cons (px_C (pe_glob (v := .int 3) (by rfl) A.k_MAX_ENTRIES.choose_spec ⟨_, rfl⟩) fun _ _ _ => .int _) pxa_nil)))))))))
      (pxb_cons (pxs_if (pxt_2 g_neS (fun h1 h2 => pt_cmpR op_ne h1 h2 (nomark _)) (px_F (po_b g_reprR (fun h => pe_callB (call_reprR hgd hu64 hsb) (by rfl) A.b_repr (by decide +kernel) h) (pxa_cons (px_var (pv 5)) pxa_nil))) px_str) (pxb_one (pxs_ret (po_U px_bl))) pxb_nil)
      (pxb_one (pxs_ret (po_U (px_F (po_2 (g_eq K) (fun h1 h2 => pe_cmpR (kEqD K hu64) h1 h2 (nomark _)) (px_F (po_b g_reprR (fun h => pe_callB (call_reprR hgd hu64 hsb) (by rfl) A.b_repr (by decide +kernel) h) (pxa_cons (px_F (po_lst (pxa_cons (px_C (pe_glob (v := .int 16) (by rfl) A.k_MAX_WANTED.choose_spec ⟨_, rfl⟩) fun _ _ _ => .int _) (pxa_cons (px_C (pe_glob (v := .int 6) (by rfl) A.k_MAX_PAPER.choose_spec ⟨_, rfl⟩) fun _ _ _ => .int _) (pxa_cons (px_C (pe_glob (v := .int 200) (by rfl) A.k_MAX_ANSWERS.choose_spec ⟨_, rfl⟩) fun _ _ _ => .int _) (pxa_cons (px_C (pe_glob (v := .int 8) (by rfl) A.k_MAX_OPEN.choose_spec ⟨_, rfl⟩) fun _ _ _ => .int _) (pxa_cons (px_C (pe_glob (v := .int 4) (by rfl) A.k_MAX_NAMES.choose_spec ⟨_, rfl⟩) fun _ _ _ => .int _) pxa_nil))))))) pxa_nil))) px_str))))))))))))
end
end Q
/-! plain facts about the combinators -/
/-! plain facts about texts -/
namespace Q
open PySem L2 PySem.Spec PyProof.Rows
/-! ### the drawn words -/
abbrev tl (s : Str) : List Nat := s.cps.toList
def qs (k : Nat) : Str := Txt.mul "q" (if k % 3 = 2 then 1 else 0)
end Q
/-! loops with an invariant; dict comprehensions -/
namespace Q
open PySem L2 PySem.Spec PyProof.Rows
/-- an expression that changes nothing -/
def Ev (f : Ex) (E : EK) (st : Ps) (d : D) : Prop := ∀ Q : R → Ps → Prop, Q (.v d) st → f E st Q
def EvA (g : Ax) (E : EK) (st : Ps) (ds : List D) : Prop := ∀ Q : List R → Ps → Prop, Q (ds.map R.v) st → g E st Q
theorem evA_nil {E : EK} {st : Ps} : EvA xNil E st [] := fun _ h => h
theorem evA_cons {f : Ex} {g : Ax} {E : EK} {st : Ps} {d : D} {ds : List D} (h1 : Ev f E st d) (h2 : EvA g E st ds) : EvA (xCons f g) E st (d :: ds) := fun _ h => h1 _ (h2 _ h)
theorem frzs_v (st : Ps) : ∀ ds : List D, frzs st (ds.map R.v) = some (ds, st)
  | [] => rfl
  | d :: ds => by
    rw [List.map_cons, frzs]
    show (match frzs st (ds.map R.v) with | none => none | some q' => some (d :: q'.1, q'.2)) = _
    rw [frzs_v st ds]
theorem looks_v (st : Ps) : ∀ ds : List D, looks st (ds.map R.v) = some ds
  | [] => rfl
  | d :: ds => by
    rw [List.map_cons, looks, looks_v st ds]
    rfl
theorem xE_of {rw : Bool} {np : Nat} {m : MF} {ga : Ax} {E : EK} {st : Ps} {Q : O → Ps → Prop} (ds : List D) (ha : EvA ga E st ds) (hr : rw = true → st.rw = true) (hn : ds.length = np) (h : m ds (fun C fs S' => E C fs { st with S := S' }) st.S fun o S' => Q o { st with S := S' }) : xE rw np m ga E st Q := by
  refine ha _ ⟨hr, ?_⟩
  rw [frzs_v]
  exact ⟨hn, h⟩
theorem xP_of {np : Nat} {m : MF} {ga : Ax} {E : EK} {st : Ps} {Q : O → Ps → Prop} (ds : List D) (ha : EvA ga E st ds) (hn : ds.length = np) (h : m ds (fun C fs S' => E C fs { st with S := S' }) st.S fun o S' => if isSc o = true then Q o st else Q o { st with S := S' }) : xP np m ga E st Q := by
  refine ha _ ?_
  unfold cP
  rw [looks_v, frzs_v]
  exact ⟨hn, h⟩
theorem at0 {α : Type} (x : α) (xs : List α) : atI (x :: xs) 0 = some x := atI_nat (j := 0) rfl
theorem at1 {α : Type} (x y : α) (xs : List α) : atI (x :: y :: xs) 1 = some y := atI_nat (j := 1) rfl
theorem at2 {α : Type} (x y z : α) (xs : List α) : atI (x :: y :: z :: xs) 2 = some z := atI_nat (j := 2) rfl
theorem eqv_int (a b : Int) : PyData.eqv (.int a) (.int b) = decide (a = b) := by
  unfold PyData.eqv
  by_cases h : a = b
  · subst h
    simp
  · simp [h]
theorem eqI {a b : Int} : eqG (.int a) (.int b) = some (.d (.bl (decide (a = b)))) := by
  show some (O.d (.bl (PyData.eqv (.int a) (.int b)))) = _
  rw [eqv_int]
theorem neI {a b : Int} : neG (.int a) (.int b) = some (.d (.bl (!decide (a = b)))) := by
  show some (O.d (.bl (!PyData.eqv (.int a) (.int b)))) = _
  rw [eqv_int]
theorem rng_len (m : Nat) : (rngD 0 ((m : Nat) : Int).toNat).length = m := by
  unfold rngD
  rw [List.length_map, List.length_range, Int.toNat_natCast]
theorem seq_go {f g : Sx} {E : EK} {K : En} {st : Ps} (h : ∀ N : Ps → Prop, (∀ st', g E K st' → N st') → f E ⟨N, K.rt, K.bk, K.ct⟩ st) : sSeq f g E K st := h _ fun _ z => z
theorem forW_by {tg : Tg} {b : Sx} {E : EK} {K : En} (I : List D → Ps → Prop) (h0 : ∀ st, I [] st → K.nx st) (h1 : ∀ d ds st, I (d :: ds) st → ∀ N : Ps → Prop, (∀ st', I ds st' → N st') → tg d st fun st' => b E ⟨N, K.rt, K.nx, N⟩ st') : ∀ (ds : List D) (st : Ps), I ds st → forW tg b E K ds st
  | [], st, h => h0 st h
  | d :: ds, st, h => h1 d ds st h _ fun st' z => forW_by I h0 h1 ds st' z
end Q
namespace Q
open PySem L2 PySem.Spec PyProof.Rows
variable {K : PySem.W.Frag} {cs : Cs} {E : EF} {R : List Cell} {Q : O → List Cell → Prop} {n : Nat}
/-! draws; the pen is the first cell -/
theorem w_draw {m : Nat} (hn : n < 2 ^ 60) (h0 : 0 < m) (h1 : m < 1000) (h : ∀ k : Nat, k < m → Q (.d (.int k)) (.pen (n + 1) :: R)) : m__law_draw [.cell 0, .int m] E (.pen n :: R) Q := by
  refine ⟨hn, by omega, by omega, fun d d0 d1 => ?_⟩
  have := h d.toNat (by omega)
  rwa [Int.toNat_of_nonneg d0] at this
theorem w_pick {xs : List D} (hn : n < 2 ^ 60) (h0 : xs ≠ []) (h1 : xs.length < 1000) (h : ∀ x ∈ xs, Q (.d x) (.pen (n + 1) :: R)) : m__law_pick K cs [.cell 0, .lst xs] E (.pen n :: R) Q := by
  unfold m__law_pick b__law_pick
  simp only [mk, sRet, sRetN, sSeq, sNx, sIf, sSet, sSetO, sEx, xU, xF, xB, xCons, xNil, xV, xC, xMv, st0, opt, looks, look, frz, frzs, isiG, tyG, clsG, clssG, O.toD, xAnd, xOr, xNot, xIf, xIfO, xT, xTO, xNotT, xAndT, xOrT, xIfT, xYes, xOp, xUn, xTup, xLst, xCh, xLc, xDc, iA, itemsD, gN, gT, gsC, gsN, sFor, sAsg, isB, iiG0, lenG, listG, tupG, leG, ltG, geG, gtG, intG, Ps.wp, wipeO, xP, xE, cP, cE, isSc, List.map_cons, List.map_nil, List.cons_append, List.nil_append, List.length_cons, List.length_nil, List.getElem?_cons_zero, List.getElem?_cons_succ, List.replicate, List.set_cons_zero, List.set_cons_succ, Nat.reduceSub, Nat.reduceAdd, if_true, if_false, Bool.false_eq_true, reduceCtorEq, truD, Bool.not_true, Bool.not_false, Option.map_some, at0, at1, at2, eqI, neI, true_and, and_true, implies_true, ne_eq, not_false_eq_true, Nat.reduceEqDiff, Bool.not_true]
  refine w_draw hn (List.length_pos_iff.mpr h0) h1 fun k hk => ?_
  simp only [mk, sRet, sRetN, sSeq, sNx, sIf, sSet, sSetO, sEx, xU, xF, xB, xCons, xNil, xV, xC, xMv, st0, opt, looks, look, frz, frzs, isiG, tyG, clsG, clssG, O.toD, xAnd, xOr, xNot, xIf, xIfO, xT, xTO, xNotT, xAndT, xOrT, xIfT, xYes, xOp, xUn, xTup, xLst, xCh, xLc, xDc, iA, itemsD, gN, gT, gsC, gsN, sFor, sAsg, isB, iiG0, lenG, listG, tupG, leG, ltG, geG, gtG, intG, Ps.wp, wipeO, xP, xE, cP, cE, isSc, List.map_cons, List.map_nil, List.cons_append, List.nil_append, List.length_cons, List.length_nil, List.getElem?_cons_zero, List.getElem?_cons_succ, List.replicate, List.set_cons_zero, List.set_cons_succ, Nat.reduceSub, Nat.reduceAdd, if_true, if_false, Bool.false_eq_true, reduceCtorEq, truD, Bool.not_true, Bool.not_false, Option.map_some, at0, at1, at2, eqI, neI, true_and, and_true, implies_true, ne_eq, not_false_eq_true, Nat.reduceEqDiff, ixD, atI_nat (List.getElem?_eq_getElem hk), Option.map_some]
  exact h _ (List.getElem_mem hk)
/-! the words -/
theorem addI {a b : Int} : addG (.int a) (.int b) = some (.d (.int (a + b))) := rfl
theorem addL {a b : List D} (h : a.length + b.length ≤ 100000) : addG (.lst a) (.lst b) = some (.lst (a ++ b)) := by
  show (if a.length + b.length ≤ sizeLine then _ else _) = _
  rw [if_pos (sizeLine_le h)]
end Q
/-! steps of a plain law -/
namespace Q
open PySem L2 PySem.Spec PyProof.Rows
theorem xF_go {f : Ox} {E : EK} {st : Ps} {Q : _root_.Q.R → Ps → Prop} (h : f E st fun o st' => Q (.v o.toD) st') : xF f E st Q := h
theorem xV_go {i : Nat} {E : EK} {st : Ps} {Q : _root_.Q.R → Ps → Prop} {d : D} (e : st.ρ[i]? = some (.d d)) (h : Q (.v d) st) : xV i E st Q := by
  unfold xV
  rw [e]
  exact h
theorem xV_lst {i : Nat} {E : EK} {st : Ps} {Q : _root_.Q.R → Ps → Prop} {xs : List D} (e : st.ρ[i]? = some (.lst xs)) (h : Q (.ref i) st) : xV i E st Q := by
  unfold xV
  rw [e]
  exact h
variable {E : EK}
theorem ev_V {i : Nat} {d : D} {st : Ps} (h : st.ρ[i]? = some (.d d)) : Ev (xV i) E st d := fun Q z => xV_go h z
theorem ev_lst {ga : Ax} {ds : List D} {st : Ps} (h : EvA ga E st ds) (hl : ds.length ≤ 1000) : Ev (xF (xLst ga)) E st (.lst ds) := fun Q z => xF_go (h _ (by
  rw [frzs_v]
  exact ⟨sizeLine_le (show ds.length ≤ 100000 by omega), z⟩))
end Q
/-! plain facts: == of texts, tuples and lists of them; schemas as plain data -/
/-! values of any kind -/
namespace Q
open PySem L2 PySem.Spec PyProof.Rows
section
variable {K : PySem.W.Frag} {cs : Cs} {E : EF} {R : List Cell} {Q : O → List Cell → Prop} {n : Nat}
abbrev av1 : List D := [.non, .bl true, .bl false, .int 0, .int 1, .int (-1), .int (10 ^ (59 : Int).toNat), .str "", .str "a", .str "A", .str "a b", .str "ab", .tup [], .tup [.str "a"], .lst [.str "a", .str "b"], .dK [], .lst [.int 1]]
abbrev av2 : List D := [.tup [.str "a", .str "b"]]
abbrev av3 : List D := [.tup [.str "a", .int 1], .dK [((Sum.inr "a" : Key), .str "b")], .str (Txt.mul "a" 8), .str (Txt.mul "a" 9), .lst [.lst [.str "a"]], .tup [.int 0, .int 1], .str "aa", .lst [], .tup [.str "a", .tup [.str "b", .str "c"]], .str "a1", .lst [.str "a"]]
abbrev av4 : List D := [.tup [.non], .tup [.str "a", .lst [.str "b", .str "c"]], .str "any"]
theorem ev_tup {E : EK} {ga : Ax} {ds : List D} {st : Ps} (h : EvA ga E st ds) (hl : ds.length ≤ 1000) : Ev (xF (xTup ga)) E st (.tup ds) := fun Q z => xF_go (h _ (by
  rw [frzs_v]
  exact ⟨sizeLine_le (show ds.length ≤ 100000 by omega), z⟩))
theorem o_lst {E : EK} {ga : Ax} {ds : List D} {st : Ps} {Q : O → Ps → Prop} (h : EvA ga E st ds) (hl : ds.length ≤ 1000) (z : Q (.lst ds) st) : xLst ga E st Q := h _ (by
  rw [frzs_v]
  exact ⟨sizeLine_le (show ds.length ≤ 100000 by omega), z⟩)
theorem ev_newK {E : EK} {st : Ps} : Ev (xF xNewK) E st (.dK []) := fun Q z => xF_go z
theorem ev_di {E : EK} {st : Ps} : Ev (xF (xDi false (xC (.str "a")) (xC (.str "b")))) E st (.dK [((Sum.inr "a" : Key), .str "b")]) := fun Q z => xF_go (by
  simp only [xDi, xC, frz, opt, noKeysO, putO, keyD, Option.map_some, putD]
  exact z)
theorem e_pow : powG (.int 10) (.int 59) = some (.d (.int (10 ^ (59 : Int).toNat))) := by
  show (if (decide ((0 : Int) ≤ 59) && decide ((59 : Int) ≤ 1000) && decide ((10 : Int).natAbs < 1000)) = true then some (O.d (D.int (10 ^ (59 : Int).toNat))) else none) = _
  rw [if_pos (by decide)]
theorem ev_pow {E : EK} {st : Ps} : Ev (xF (xOp powG (xC (.int 10)) (xC (.int 59)))) E st (.int (10 ^ (59 : Int).toNat)) := fun Q z => xF_go (by
  simp only [xOp, xC, look, opt, e_pow]
  exact z)
theorem e_mul {k : Int} (h : MulOk "a" k) : mulSG (.str "a") (.int k) = some (.d (.str (Txt.mul "a" k))) := by
  show (if MulOk "a" k then some (O.d (.str (Txt.mul "a" k))) else none) = _
  rw [if_pos h]
theorem ev_mul8 {E : EK} {st : Ps} : Ev (xF (xOp mulSG (xC (.str "a")) (xC (.int 8)))) E st (.str (Txt.mul "a" 8)) := fun Q z => xF_go (by
  simp only [xOp, xC, look, opt, e_mul (k := 8) (by decide)]
  exact z)
theorem ev_mul9 {E : EK} {st : Ps} : Ev (xF (xOp mulSG (xC (.str "a")) (xC (.int 9)))) E st (.str (Txt.mul "a" 9)) := fun Q z => xF_go (by
  simp only [xOp, xC, look, opt, e_mul (k := 9) (by decide)]
  exact z)
theorem w_any_value (hn : n < 2 ^ 60) (h : ∀ v ∈ av1 ++ av2 ++ av3 ++ av4, Q (.d v) (.pen (n + 1) :: R)) : m__law_any_value K cs [.cell 0] E (.pen n :: R) Q := by
  unfold m__law_any_value b__law_any_value
  simp only [mk, st0, List.map_cons, List.map_nil, List.cons_append, List.nil_append, List.length_cons, List.length_nil, Nat.reduceSub, Nat.reduceAdd, List.replicate]
  refine seq_go fun N1 k1 => ?_
  simp only [sSet]
  refine o_lst (ds := av1) (evA_cons (fun _ y => y) (evA_cons (fun _ y => y) (evA_cons (fun _ y => y) (evA_cons (fun _ y => y) (evA_cons (fun _ y => y) (evA_cons (fun _ y => y) (evA_cons ev_pow (evA_cons (fun _ y => y) (evA_cons (fun _ y => y) (evA_cons (fun _ y => y) (evA_cons (fun _ y => y) (evA_cons (fun _ y => y) (evA_cons (ev_tup evA_nil (show 0 ≤ 1000 by decide)) (evA_cons (ev_tup (evA_cons (fun _ y => y) evA_nil) (show 1 ≤ 1000 by decide)) (evA_cons (ev_lst (evA_cons (fun _ y => y) (evA_cons (fun _ y => y) evA_nil)) (show 2 ≤ 1000 by decide)) (evA_cons ev_newK (evA_cons (ev_lst (evA_cons (fun _ y => y) evA_nil) (show 1 ≤ 1000 by decide)) evA_nil))))))))))))))))) (show 17 ≤ 1000 by decide) ?_
  simp only [O.toD, List.set_cons_zero, List.set_cons_succ]
  refine k1 _ (seq_go fun N2 k2 => ?_)
  clear k1
  simp only [sSet, xOp]
  refine xV_go rfl ?_
  refine (ev_lst (ds := av2) (evA_cons (ev_tup (evA_cons (fun _ y => y) (evA_cons (fun _ y => y) evA_nil)) (show 2 ≤ 1000 by decide)) evA_nil) (show 1 ≤ 1000 by decide)) _ ?_
  simp only [look, opt, addL (a := av1) (b := av2) (show 18 ≤ 100000 by decide), O.toD, List.set_cons_zero, List.set_cons_succ]
  refine k2 _ (seq_go fun N3 k3 => ?_)
  clear k2
  simp only [sSet, xOp]
  refine xV_go rfl ?_
  refine (ev_lst (ds := av3) (evA_cons (ev_tup (evA_cons (fun _ y => y) (evA_cons (fun _ y => y) evA_nil)) (show 2 ≤ 1000 by decide)) (evA_cons ev_di (evA_cons ev_mul8 (evA_cons ev_mul9 (evA_cons (ev_lst (evA_cons (ev_lst (evA_cons (fun _ y => y) evA_nil) (show 1 ≤ 1000 by decide)) evA_nil) (show 1 ≤ 1000 by decide)) (evA_cons (ev_tup (evA_cons (fun _ y => y) (evA_cons (fun _ y => y) evA_nil)) (show 2 ≤ 1000 by decide)) (evA_cons (fun _ y => y) (evA_cons (ev_lst evA_nil (show 0 ≤ 1000 by decide)) (evA_cons (ev_tup (evA_cons (fun _ y => y) (evA_cons (ev_tup (evA_cons (fun _ y => y) (evA_cons (fun _ y => y) evA_nil)) (show 2 ≤ 1000 by decide)) evA_nil)) (show 2 ≤ 1000 by decide)) (evA_cons (fun _ y => y) (evA_cons (ev_lst (evA_cons (fun _ y => y) evA_nil) (show 1 ≤ 1000 by decide)) evA_nil))))))))))) (show 11 ≤ 1000 by decide)) _ ?_
  simp only [look, opt, addL (a := av1 ++ av2) (b := av3) (show 29 ≤ 100000 by decide), O.toD, List.set_cons_zero, List.set_cons_succ]
  refine k3 _ ?_
  clear k3
  simp only [sRet, xU]
  refine xF_go (xE_of [.cell 0, .lst (av1 ++ av2 ++ av3 ++ av4)] (evA_cons (ev_V rfl) (evA_cons (fun Q z => xF_go ?_) evA_nil)) (fun _ => rfl) rfl ?_)
  · simp only [xOp]
    refine xV_go rfl ?_
    refine (ev_lst (ds := av4) (evA_cons (ev_tup (evA_cons (fun _ y => y) evA_nil) (show 1 ≤ 1000 by decide)) (evA_cons (ev_tup (evA_cons (fun _ y => y) (evA_cons (ev_lst (evA_cons (fun _ y => y) (evA_cons (fun _ y => y) evA_nil)) (show 2 ≤ 1000 by decide)) evA_nil)) (show 2 ≤ 1000 by decide)) (evA_cons (fun _ y => y) evA_nil))) (show 3 ≤ 1000 by decide)) _ ?_
    simp only [look, opt, addL (a := av1 ++ av2 ++ av3) (b := av4) (show 32 ≤ 100000 by decide), O.toD]
    exact z
  · exact w_pick hn (by simp) (show 32 < 1000 by decide) h
end
end Q
/-! a small calculus: what an expression, a test tells where nothing is changed -/
namespace Q
open PySem L2 PySem.Spec PyProof.Rows
section
variable {E : EK} {st : Ps} {f f1 f2 f3 : Ex} {t u : Tx} {g h0 : Ox} {a b : Bool} {d d1 d2 d3 : D} {o : O} {ga : Ax} {ds : List D}
def Tv (t : Tx) (E : EK) (st : Ps) (b : Bool) : Prop := ∀ Q : Bool → Ps → Prop, Q b st → t E st Q
def Eo (g : Ox) (E : EK) (st : Ps) (o : O) : Prop := ∀ Q : O → Ps → Prop, Q o st → g E st Q
theorem tv_ev (h : Ev f E st (.bl b)) : Tv (xT f) E st b := fun Q z => h _ z
theorem tv_or (h : Tv t E st a) (k : a = false → Tv u E st b) : Tv (xOrT t u) E st (a || b) := fun Q z => h _ (by
  cases a with
  | true => rw [if_pos rfl]; exact z
  | false => rw [if_neg Bool.false_ne_true]; exact k rfl _ z)
theorem tv_o (h : Eo g E st (.d (.bl b))) : Tv (xTO g) E st b := fun Q z => h _ z
theorem ev_od (h : Eo g E st (.d d)) : Ev (xF g) E st d := fun Q z => h _ z
theorem eo_u (h : Ev f E st d) : Eo (xU f) E st (.d d) := fun Q z => h _ z
theorem ev_C : Ev (xC d) E st d := fun Q z => z
theorem eo_op {gg : D → D → Option O} (h1 : Ev f1 E st d1) (h2 : Ev f2 E st d2) (h : gg d1 d2 = some o) : Eo (xOp gg f1 f2) E st o := fun Q z => h1 _ (h2 _ (by simp only [look, opt, h]; exact z))
theorem eo_b {gg : Gc} (ha : EvA ga E st ds) (h : ∀ J : O → Prop, J o → gg ds J) : Eo (xB gg ga) E st o := fun Q z => ha _ (by rw [looks_v]; exact h _ z)
theorem eo_b1 {gg : Gc} (h1 : Ev f E st d) (h : ∀ J : O → Prop, J o → gg [d] J) : Eo (xB gg (xCons f xNil)) E st o := eo_b (evA_cons h1 evA_nil) h
theorem eo_un {gg : List Cell → D → (O → Prop) → Prop} (h1 : Ev f E st d) (h : ∀ J : O → Prop, J o → gg st.S d J) : Eo (xUn gg f) E st o := fun Q z => h1 _ (h _ z)
theorem eo_P {np : Nat} {m : MF} (ha : EvA ga E st ds) (hn : ds.length = np) (h : ∀ (E' : EF) (Q : O → List Cell → Prop), Q o st.S → m ds E' st.S Q) : Eo (xP np m ga) E st o := fun Q z => xP_of ds ha hn (h _ _ (by
  show if isSc o = true then Q o st else Q o st
  split <;> exact z))
theorem sIf_tv {p q : Sx} {K : En} (h : Tv t E st b) (y : b = true → p E K st) (n : b = false → q E K st) : sIf t p q E K st := h _ (by
  cases b with
  | true => rw [if_pos rfl]; exact y rfl
  | false => rw [if_neg Bool.false_ne_true]; exact n rfl)
theorem sSet_eo {i : Nat} {K : En} (h : Eo g E st o) (k : K.nx { st with ρ := st.ρ.set i (.d o.toD) }) : sSet i g E K st := h _ k
theorem sRet_eo {K : En} (h : Eo g E st o) (k : K.rt o st) : sRet g E K st := h _ k
theorem eo_tup (ha : EvA ga E st ds) (hl : ds.length ≤ 1000) : Eo (xTup ga) E st (.d (.tup ds)) := fun Q z => ha _ (by
  rw [frzs_v]
  exact ⟨sizeLine_le (show ds.length ≤ 100000 by omega), z⟩)
theorem eo_lst (ha : EvA ga E st ds) (hl : ds.length ≤ 1000) : Eo (xLst ga) E st (.lst ds) := fun Q z => ha _ (by
  rw [frzs_v]
  exact ⟨sizeLine_le (show ds.length ≤ 100000 by omega), z⟩)
end
end Q
/-! what is due, and what is told -/
namespace Q
open PySem L2 PySem.Spec PyProof.Rows
section
variable {E : EK} {st : Ps} {f : Ex} {d : D} {ga : Ax}
theorem sSet_h {i : Nat} {g : Ox} {K : En} (h : g E st fun o st' => K.nx { st' with ρ := st'.ρ.set i (.d o.toD) }) : sSet i g E K st := h
end
variable {K : PySem.W.Frag} {cs : Cs} {E : EF} {S : List Cell} {Q : O → List Cell → Prop} {p t : D}
end Q
/-! errors as values: what an expression tells -/
namespace Q
open PySem L2 PySem.Spec PyProof.Rows
variable {K : PySem.W.Frag} {cs : Cs}
section
variable {E : EK} {En : En} {st : Ps} {f f1 f2 f3 : Ex} {d v : D} {o : O} {ga : Ax} {ds : List D} {C : Addr} {fl : List Str} {g : Str} {fs : List (Str × D)}
theorem eo_mkE {m : Nat} {gD : List D → List D} (ha : EvA ga E st ds) (h1 : ds.length = m) (h2 : (gD ds).length = fl.length) : Eo (xMkE C fl m gD ga) E st (.d (.err C (fl.zip (gD ds)).reverse)) := fun Q z => ha _ (by
  rw [frzs_v]
  exact ⟨h1, h2, z⟩)
theorem eo_fdv (h : Ev f E st (.err C fs)) (T : XfC K C) (hn : PySem.W.findIn K (.ref C) g = some none) (e : fs.lookup g = some d) : Eo (xUn (fdvG K g) f) E st (.d d) := eo_un h fun J z => ⟨T, hn, by rw [e]; exact z⟩
theorem ev_mk1 (ck : CauK K C [g]) (h : Ev f E st v) : Ev (xF (xMkE C [g] 1 id (xCons f xNil))) E st (.err C [(g, v)]) := ev_od (eo_mkE (ds := [v]) (gD := id) (evA_cons h evA_nil) rfl rfl)
theorem ev_fd1 (ck : CauK K C [g]) (h : Ev f E st (.err C [(g, v)])) : Ev (xF (xUn (fdvG K g) f)) E st v := ev_od (eo_fdv h ck.xf (ck.no g List.mem_cons_self) (by simp [List.lookup]))
theorem xV_ref {i : Nat} {P : _root_.Q.R → Ps → Prop} {ys : List D} (h : st.ρ[i]? = some (.lst ys)) (z : P (.ref i) st) : xV i E st P := xV_lst h z
theorem frz_at {j : Nat} {ys : List D} (h : st.ρ[j]? = some (.lst ys)) {P : D × Ps → Prop} (z : P (.lst ys, { st with ρ := st.ρ.set j (.d (.lst ys)) })) : opt (frz st (.ref j)) P := by
  simp only [frz, h]
  exact z
theorem sRet_own {j : Nat} {ys : List D} (h : st.ρ[j]? = some (.lst ys)) (z : En.rt (.d (.lst ys)) { st with ρ := st.ρ.set j (.d (.lst ys)) }) : sRet (xU (xV j)) E En st := by
  show xV j E st fun r st' => opt (frz st' r) fun q => En.rt (.d q.1) q.2
  exact xV_ref h (frz_at h z)
def sname (n : Nat) : Str := if n = 0 then "value" else if n = 1 then "lookup" else if n = 2 then "overflow" else "runtime"
/-- what stands in the lists of errors -/
def EntOk (K : PySem.W.Frag) (cs : Cs) (v x : D) : Prop := ∃ (i : Nat) (C : Addr) (fs : List (Str × D)), i < 31 ∧ (errL cs).getD i 0 = C ∧ ExcC K C ∧ x = .tup [.err C fs, v, v, .str (sname (errS.getD i 9))]
def AllE (K : PySem.W.Frag) (cs : Cs) (v : D) (ys : List D) (n : Nat) : Prop := (∀ y ∈ ys, EntOk K cs v y) ∧ ys.length = n
theorem AllE.nil {v : D} : AllE K cs v [] 0 := ⟨fun y h => absurd h List.not_mem_nil, rfl⟩
theorem app_e {i n : Nat} {s : Str} {rest : Sx} {ys : List D} (A : AllE K cs v ys n) (hn : n < 50) (hi : i < 31) (hC : (errL cs).getD i 0 = C) (T : ExcC K C) (hs : s = sname (errS.getD i 9)) (hy : st.ρ[1]? = some (.lst ys)) (h1 : Ev f1 E st (.err C fs)) (h2 : Ev f2 E st v) (h3 : Ev f3 E st v)
    (h : ∀ zs, AllE K cs v zs (n + 1) → rest E En { st with ρ := st.ρ.set 1 (.lst zs) }) : sSeq (sApp 1 (xF (xTup (xCons f1 (xCons f2 (xCons f3 (xCons (xC (.str s)) xNil))))))) rest E En st := by
  refine seq_go fun N k => ⟨⟨ys, hy⟩, (ev_od (eo_tup (evA_cons h1 (evA_cons h2 (evA_cons h3 (evA_cons ev_C evA_nil)))) (by show 4 ≤ 1000; decide))) _ ?_⟩
  simp only [frz, opt, hy]
  refine ⟨by rw [sizeLine_eq, A.2]; omega, k _ (h _ ⟨fun y m => (List.mem_append.mp m).elim (A.1 y) fun m => ?_, by rw [List.length_append, A.2]; rfl⟩)⟩
  rw [List.mem_singleton.mp m, hs]
  exact ⟨i, C, fs, hi, hC, T, rfl⟩
end
section
variable {E : EK} {En : En} {rest : Sx} {v : D} {o : O} {S : List Cell} {rw_ vw : Bool} {C : Addr} {g s : Str} {ys : List D} {i n : Nat}
/-- e = C(f = v); found.append((C(v), e.f, C(v).f, s)) -/
theorem pA (ck : CauK K C [g]) (A : AllE K cs v ys n) (hn : n < 50) (hi : i < 31) (hC : (errL cs).getD i 0 = C) (hs : s = sname (errS.getD i 9)) (h : ∀ zs o, AllE K cs v zs (n + 1) → rest E En ⟨[.d v, .lst zs, o], S, rw_, vw⟩) :
    sSeq (sSet 2 (xMkE C [g] 1 id (xCons (xV 0) xNil))) (sSeq (sApp 1 (xF (xTup (xCons (xF (xMkE C [g] 1 id (xCons (xV 0) xNil))) (xCons (xF (xUn (fdvG K g) (xV 2))) (xCons (xF (xUn (fdvG K g) (xF (xMkE C [g] 1 id (xCons (xV 0) xNil))))) (xCons (xC (.str s)) xNil))))))) rest) E En ⟨[.d v, .lst ys, o], S, rw_, vw⟩ := by
  refine seq_go fun N k => sSet_eo (o := .d (.err C [(g, v)])) (eo_mkE (ds := [v]) (gD := id) (evA_cons (ev_V rfl) evA_nil) rfl rfl) (k _ ?_)
  exact app_e A hn hi hC ck.xc hs rfl (ev_mk1 ck (ev_V rfl)) (ev_fd1 ck (ev_V rfl)) (ev_fd1 ck (ev_mk1 ck (ev_V rfl))) fun zs B => h zs _ B
/-- found.append((C(v), C(f = v).f, C(v).f, s)) -/
theorem pB (ck : CauK K C [g]) (A : AllE K cs v ys n) (hn : n < 50) (hi : i < 31) (hC : (errL cs).getD i 0 = C) (hs : s = sname (errS.getD i 9)) (h : ∀ zs o, AllE K cs v zs (n + 1) → rest E En ⟨[.d v, .lst zs, o], S, rw_, vw⟩) :
    sSeq (sApp 1 (xF (xTup (xCons (xF (xMkE C [g] 1 id (xCons (xV 0) xNil))) (xCons (xF (xUn (fdvG K g) (xF (xMkE C [g] 1 id (xCons (xV 0) xNil))))) (xCons (xF (xUn (fdvG K g) (xF (xMkE C [g] 1 id (xCons (xV 0) xNil))))) (xCons (xC (.str s)) xNil))))))) rest E En ⟨[.d v, .lst ys, o], S, rw_, vw⟩ :=
  app_e A hn hi hC ck.xc hs rfl (ev_mk1 ck (ev_V rfl)) (ev_fd1 ck (ev_mk1 ck (ev_V rfl))) (ev_fd1 ck (ev_mk1 ck (ev_V rfl))) fun zs B => h zs _ B
/-- found.append((C(), v, v, s)) -/
theorem pC (ck : CauK K C []) (A : AllE K cs v ys n) (hn : n < 50) (hi : i < 31) (hC : (errL cs).getD i 0 = C) (hs : s = sname (errS.getD i 9)) (h : ∀ zs o, AllE K cs v zs (n + 1) → rest E En ⟨[.d v, .lst zs, o], S, rw_, vw⟩) :
    sSeq (sApp 1 (xF (xTup (xCons (xF (xMkE0 C)) (xCons (xV 0) (xCons (xV 0) (xCons (xC (.str s)) xNil))))))) rest E En ⟨[.d v, .lst ys, o], S, rw_, vw⟩ :=
  app_e A hn hi hC ck.xc hs rfl (ev_od fun Q z => z) (ev_V rfl) (ev_V rfl) fun zs B => h zs _ B
variable {g2 : Str}
/-- e = C(g2 = v, g = 0); found.append((C(0, v), e.g2, C(0, v).g2, s)) -/
theorem pD1 (ck : CauK K C [g, g2]) (hg : (g2 == g) = false) (A : AllE K cs v ys n) (hn : n < 50) (hi : i < 31) (hC : (errL cs).getD i 0 = C) (hs : s = sname (errS.getD i 9)) (h : ∀ zs o, AllE K cs v zs (n + 1) → rest E En ⟨[.d v, .lst zs, o], S, rw_, vw⟩) :
    sSeq (sSet 2 (xMkE C [g, g2] 2 List.reverse (xCons (xV 0) (xCons (xC (.int 0)) xNil)))) (sSeq (sApp 1 (xF (xTup (xCons (xF (xMkE C [g, g2] 2 id (xCons (xC (.int 0)) (xCons (xV 0) xNil)))) (xCons (xF (xUn (fdvG K g2) (xV 2))) (xCons (xF (xUn (fdvG K g2) (xF (xMkE C [g, g2] 2 id (xCons (xC (.int 0)) (xCons (xV 0) xNil)))))) (xCons (xC (.str s)) xNil))))))) rest) E En ⟨[.d v, .lst ys, o], S, rw_, vw⟩ := by
  refine seq_go fun N k => sSet_eo (o := .d (.err C [(g2, v), (g, .int 0)])) (eo_mkE (ds := [v, .int 0]) (gD := List.reverse) (evA_cons (ev_V rfl) (evA_cons ev_C evA_nil)) rfl rfl) (k _ ?_)
  have mk : ∀ {E : EK} {st : Ps}, st.ρ[0]? = some (.d v) → Ev (xF (xMkE C [g, g2] 2 id (xCons (xC (.int 0)) (xCons (xV 0) xNil)))) E st (.err C [(g2, v), (g, .int 0)]) := fun e => ev_od (eo_mkE (ds := [.int 0, v]) (gD := id) (evA_cons ev_C (evA_cons (ev_V e) evA_nil)) rfl rfl)
  have fd : ∀ {E : EK} {st : Ps} {f : Ex}, Ev f E st (.err C [(g2, v), (g, .int 0)]) → Ev (xF (xUn (fdvG K g2) f)) E st v := fun h => ev_od (eo_fdv h ck.xf (ck.no g2 (by simp)) (by simp [List.lookup]))
  exact app_e A hn hi hC ck.xc hs rfl (mk rfl) (fd (ev_V rfl)) (fd (mk rfl)) fun zs B => h zs _ B
theorem pD2 (ck : CauK K C [g, g2]) (hg : (g == g2) = false) (A : AllE K cs v ys n) (hn : n < 50) (hi : i < 31) (hC : (errL cs).getD i 0 = C) (hs : s = sname (errS.getD i 9)) (h : ∀ zs o, AllE K cs v zs (n + 1) → rest E En ⟨[.d v, .lst zs, o], S, rw_, vw⟩) :
    sSeq (sSet 2 (xMkE C [g, g2] 2 List.reverse (xCons (xC (.int 0)) (xCons (xV 0) xNil)))) (sSeq (sApp 1 (xF (xTup (xCons (xF (xMkE C [g, g2] 2 id (xCons (xV 0) (xCons (xC (.int 0)) xNil)))) (xCons (xF (xUn (fdvG K g) (xV 2))) (xCons (xF (xUn (fdvG K g) (xF (xMkE C [g, g2] 2 id (xCons (xV 0) (xCons (xC (.int 0)) xNil)))))) (xCons (xC (.str s)) xNil))))))) rest) E En ⟨[.d v, .lst ys, o], S, rw_, vw⟩ := by
  refine seq_go fun N k => sSet_eo (o := .d (.err C [(g2, .int 0), (g, v)])) (eo_mkE (ds := [.int 0, v]) (gD := List.reverse) (evA_cons ev_C (evA_cons (ev_V rfl) evA_nil)) rfl rfl) (k _ ?_)
  have mk : ∀ {E : EK} {st : Ps}, st.ρ[0]? = some (.d v) → Ev (xF (xMkE C [g, g2] 2 id (xCons (xV 0) (xCons (xC (.int 0)) xNil)))) E st (.err C [(g2, .int 0), (g, v)]) := fun e => ev_od (eo_mkE (ds := [v, .int 0]) (gD := id) (evA_cons (ev_V e) (evA_cons ev_C evA_nil)) rfl rfl)
  have fd : ∀ {E : EK} {st : Ps} {f : Ex}, Ev f E st (.err C [(g2, .int 0), (g, v)]) → Ev (xF (xUn (fdvG K g) f)) E st v := fun h => ev_od (eo_fdv h ck.xf (ck.no g (by simp)) (by simp [List.lookup, hg]))
  exact app_e A hn hi hC ck.xc hs rfl (mk rfl) (fd (ev_V rfl)) (fd (mk rfl)) fun zs B => h zs _ B
end
end Q
/-! the lists of errors; what an error is -/
namespace Q
open PySem L2 PySem.Spec PyProof.Rows
variable {K : PySem.W.Frag} {cs : Cs}
theorem w_some (fk : Fk K cs) {E : EF} {S : List Cell} {Q : O → List Cell → Prop} {v : D} (h : ∀ zs, AllE K cs v zs 12 → Q (.d (.lst zs)) S) : m__law_some_errors K cs [v] E S Q := by
  unfold m__law_some_errors b__law_some_errors
  simp only [mk, st0, List.map_cons, List.map_nil, List.cons_append, List.nil_append, List.length_cons, List.length_nil, Nat.reduceSub, Nat.reduceAdd, List.replicate]
  refine seq_go fun N k => (eo_lst evA_nil (by show 0 ≤ 1000; decide)) _ (k _ ?_)
  clear k
  have A0 : AllE K cs v [] 0 := .nil
  refine pA fk.ck_InvalidTable A0 (by decide) (i := 0) (by decide) rfl rfl fun z1 o1 A1 => ?_
  refine pA fk.ck_InvalidRow A1 (by decide) (i := 2) (by decide) rfl rfl fun z2 o2 A2 => ?_
  refine pA fk.ck_InvalidRule A2 (by decide) (i := 4) (by decide) rfl rfl fun z3 o3 A3 => ?_
  refine pB fk.ck_Misfit A3 (by decide) (i := 5) (by decide) rfl rfl fun z4 o4 A4 => ?_
  refine pB fk.ck_Circle A4 (by decide) (i := 6) (by decide) rfl rfl fun z5 o5 A5 => ?_
  refine pA fk.ck_InvalidFact A5 (by decide) (i := 7) (by decide) rfl rfl fun z6 o6 A6 => ?_
  refine pA fk.ck_InvalidChange A6 (by decide) (i := 8) (by decide) rfl rfl fun z7 o7 A7 => ?_
  refine pA fk.ck_InvalidAnswer A7 (by decide) (i := 9) (by decide) rfl rfl fun z8 o8 A8 => ?_
  refine pA fk.ck_InvalidTemplate A8 (by decide) (i := 10) (by decide) rfl rfl fun z9 o9 A9 => ?_
  refine pA fk.ck_InvalidNames A9 (by decide) (i := 11) (by decide) rfl rfl fun z10 o10 A10 => ?_
  refine pA fk.ck_InvalidLimit A10 (by decide) (i := 13) (by decide) rfl rfl fun z11 o11 A11 => ?_
  refine pA fk.ck_Unreadable A11 (by decide) (i := 14) (by decide) rfl rfl fun z12 o12 A12 => ?_
  exact sRet_own rfl (h _ A12)
theorem w_other (fk : Fk K cs) {E : EF} {S : List Cell} {Q : O → List Cell → Prop} {v : D} (h : ∀ zs, AllE K cs v zs 20 → Q (.d (.lst zs)) S) : m__law_other_errors K cs [v] E S Q := by
  unfold m__law_other_errors b__law_other_errors
  simp only [mk, st0, List.map_cons, List.map_nil, List.cons_append, List.nil_append, List.length_cons, List.length_nil, Nat.reduceSub, Nat.reduceAdd, List.replicate]
  refine seq_go fun N k => (eo_lst evA_nil (by show 0 ≤ 1000; decide)) _ (k _ ?_)
  clear k
  have A0 : AllE K cs v [] 0 := .nil
  refine pA fk.ck_UnknownTable A0 (by decide) (i := 16) (by decide) rfl rfl fun z1 o1 A1 => ?_
  refine pA fk.ck_UnknownColumn A1 (by decide) (i := 17) (by decide) rfl rfl fun z2 o2 A2 => ?_
  refine pA fk.ck_OutOfRange A2 (by decide) (i := 18) (by decide) rfl rfl fun z3 o3 A3 => ?_
  refine pB fk.ck_NoAnswer A3 (by decide) (i := 19) (by decide) rfl rfl fun z4 o4 A4 => ?_
  refine pB fk.ck_NoCase A4 (by decide) (i := 20) (by decide) rfl rfl fun z5 o5 A5 => ?_
  refine pB fk.ck_NoBranch A5 (by decide) (i := 21) (by decide) rfl rfl fun z6 o6 A6 => ?_
  refine pB fk.ck_TooMany A6 (by decide) (i := 23) (by decide) rfl rfl fun z7 o7 A7 => ?_
  refine pB fk.ck_TooDear A7 (by decide) (i := 24) (by decide) rfl rfl fun z8 o8 A8 => ?_
  refine pD1 fk.ck_Broken (by decide) A8 (by decide) (i := 25) (by decide) rfl rfl fun z9 o9 A9 => ?_
  refine pD2 fk.ck_Broken (by decide) A9 (by decide) (i := 25) (by decide) rfl rfl fun z10 o10 A10 => ?_
  refine pB fk.ck_Unfit A10 (by decide) (i := 26) (by decide) rfl rfl fun z11 o11 A11 => ?_
  refine pB fk.ck_Refused A11 (by decide) (i := 28) (by decide) rfl rfl fun z12 o12 A12 => ?_
  refine pA fk.ck_LookFailed A12 (by decide) (i := 29) (by decide) rfl rfl fun z13 o13 A13 => ?_
  refine pB fk.ck_NoLook A13 (by decide) (i := 30) (by decide) rfl rfl fun z14 o14 A14 => ?_
  refine pC fk.ck_InvalidSchema A14 (by decide) (i := 1) (by decide) rfl rfl fun z15 o15 A15 => ?_
  refine pC fk.ck_OtherSchema A15 (by decide) (i := 3) (by decide) rfl rfl fun z16 o16 A16 => ?_
  refine pC fk.ck_InvalidPair A16 (by decide) (i := 12) (by decide) rfl rfl fun z17 o17 A17 => ?_
  refine pC fk.ck_NoLine A17 (by decide) (i := 15) (by decide) rfl rfl fun z18 o18 A18 => ?_
  refine pC fk.ck_Nothing A18 (by decide) (i := 22) (by decide) rfl rfl fun z19 o19 A19 => ?_
  refine pC fk.ck_NeverFits A19 (by decide) (i := 27) (by decide) rfl rfl fun z20 o20 A20 => ?_
  exact sRet_own rfl (h _ A20)
theorem kM_at (fk : Fk K cs) {i j : Nat} (hi : i < 31) (hj : j < 31) : PySem.W.kitOne K (.ref ((errL cs).getD i 0)) (.ref ((errL cs).getD j 0)) = some (decide (i = j)) := of_decide_eq_true (List.all_eq_true.mp (List.all_eq_true.mp fk.kM i (List.mem_range.mpr hi)) j (List.mem_range.mpr hj))
theorem kB_at (fk : Fk K cs) {i j : Nat} (hi : i < 31) (hj : j < 4) : PySem.W.kitOne K (.ref ((errL cs).getD i 0)) (.type (errB.getD j "")) = some (decide (errS.getD i 9 = j)) := of_decide_eq_true (List.all_eq_true.mp (List.all_eq_true.mp fk.kB i (List.mem_range.mpr hi)) j (List.mem_range.mpr hj))
theorem kD_at (fk : Fk K cs) {i : Nat} (hi : i < 31) : PySem.W.kitAny K (.ref ((errL cs).getD i 0)) [.type "IndexError", .type "KeyError", .type "NotImplementedError"] = some false := of_decide_eq_true (List.all_eq_true.mp fk.kD i (List.mem_range.mpr hi))
section
variable {E : EK} {En : En} {st : Ps} {C : Addr} {fs : List (Str × D)} {i j : Nat}
theorem ev_isC {A : Addr} (fk : Fk K cs) (T : ExcC K C) (hi : i < 31) (hC : (errL cs).getD i 0 = C) (hj : j < 31) (hA : (errL cs).getD j 0 = A) (h : st.ρ[0]? = some (.d (.err C fs))) : Ev (xF (xB (isvG K) (xCons (xV 0) (xCons (xC (.cls A)) xNil)))) E st (.bl (decide (i = j))) := ev_od (eo_b (evA_cons (ev_V h) (evA_cons ev_C evA_nil)) fun J z => ⟨T, by
  show opt (PySem.W.kitOne K (.ref C) (.ref A)) _
  rw [← hC, ← hA, kM_at fk hi hj]
  exact z⟩)
theorem ev_isB (fk : Fk K cs) (T : ExcC K C) (hi : i < 31) (hC : (errL cs).getD i 0 = C) (hj : j < 4) {n : String} (hn : errB.getD j "" = n) (h : st.ρ[0]? = some (.d (.err C fs))) : Ev (xF (xB (isvG K) (xCons (xV 0) (xCons (xC (.ty n)) xNil)))) E st (.bl (decide (errS.getD i 9 = j))) := ev_od (eo_b (evA_cons (ev_V h) (evA_cons ev_C evA_nil)) fun J z => ⟨T, by
  show opt (PySem.W.kitOne K (.ref C) (.type n)) _
  rw [← hC, ← hn, kB_at fk hi hj]
  exact z⟩)
def bsL (i j : Nat) : List D := (List.range j).map fun k => .bl (decide (i = k))
theorem bsL_two (i j : Nat) : bsL i j ++ [.bl (decide (i = j)), .bl (decide (i = j + 1))] = bsL i (j + 2) := by
  unfold bsL
  rw [List.range_succ, List.map_append, List.range_succ, List.map_append]
  simp
theorem bsL_three (i j : Nat) : bsL i j ++ [.bl (decide (i = j)), .bl (decide (i = j + 1)), .bl (decide (i = j + 2))] = bsL i (j + 3) := by
  unfold bsL
  rw [List.range_succ, List.map_append, List.range_succ, List.map_append, List.range_succ, List.map_append]
  simp
theorem bsL_len (i j : Nat) : (bsL i j).length = j := by unfold bsL; simp
theorem ext_go {rest : Sx} {f : Ex} {xs ys : List D} (hx : st.ρ[1]? = some (.lst xs)) (h : Ev f E st (.lst ys)) (hl : xs.length + ys.length ≤ 100) (k : rest E En { st with ρ := st.ρ.set 1 (.lst (xs ++ ys)) }) : sSeq (sExt 1 f) rest E En st := by
  refine seq_go fun N z => ⟨⟨xs, hx⟩, h _ ?_⟩
  simp only [frz, opt, hx]
  exact ⟨by rw [sizeLine_eq]; omega, z _ k⟩
theorem ext2 {rest : Sx} {A B : Addr} {S : List Cell} {rw_ vw : Bool} (fk : Fk K cs) (T : ExcC K C) (hi : i < 31) (hC : (errL cs).getD i 0 = C) (hj : j + 1 < 31) (hA : (errL cs).getD j 0 = A) (hB : (errL cs).getD (j + 1) 0 = B) (k : rest E En ⟨[.d (.err C fs), .lst (bsL i (j + 2))], S, rw_, vw⟩) :
    sSeq (sExt 1 (xF (xLst (xCons (xF (xB (isvG K) (xCons (xV 0) (xCons (xC (.cls A)) xNil)))) (xCons (xF (xB (isvG K) (xCons (xV 0) (xCons (xC (.cls B)) xNil)))) xNil))))) rest E En ⟨[.d (.err C fs), .lst (bsL i j)], S, rw_, vw⟩ := by
  refine ext_go (xs := bsL i j) (ys := [.bl (decide (i = j)), .bl (decide (i = j + 1))]) rfl (ev_lst (evA_cons (ev_isC fk T hi hC (by omega) hA rfl) (evA_cons (ev_isC fk T hi hC hj hB rfl) evA_nil)) (by show 2 ≤ 1000; decide)) (by rw [bsL_len]; show j + 2 ≤ 100; omega) ?_
  rw [bsL_two]
  exact k
theorem ext3 {rest : Sx} {A B D0 : Addr} {S : List Cell} {rw_ vw : Bool} (fk : Fk K cs) (T : ExcC K C) (hi : i < 31) (hC : (errL cs).getD i 0 = C) (hj : j + 2 < 31) (hA : (errL cs).getD j 0 = A) (hB : (errL cs).getD (j + 1) 0 = B) (hD : (errL cs).getD (j + 2) 0 = D0) (k : rest E En ⟨[.d (.err C fs), .lst (bsL i (j + 3))], S, rw_, vw⟩) :
    sSeq (sExt 1 (xF (xLst (xCons (xF (xB (isvG K) (xCons (xV 0) (xCons (xC (.cls A)) xNil)))) (xCons (xF (xB (isvG K) (xCons (xV 0) (xCons (xC (.cls B)) xNil)))) (xCons (xF (xB (isvG K) (xCons (xV 0) (xCons (xC (.cls D0)) xNil)))) xNil)))))) rest E En ⟨[.d (.err C fs), .lst (bsL i j)], S, rw_, vw⟩ := by
  refine ext_go (xs := bsL i j) (ys := [.bl (decide (i = j)), .bl (decide (i = j + 1)), .bl (decide (i = j + 2))]) rfl (ev_lst (evA_cons (ev_isC fk T hi hC (by omega) hA rfl) (evA_cons (ev_isC fk T hi hC (by omega) hB rfl) (evA_cons (ev_isC fk T hi hC hj hD rfl) evA_nil))) (by show 3 ≤ 1000; decide)) (by rw [bsL_len]; show j + 3 ≤ 100; omega) ?_
  rw [bsL_three]
  exact k
end
theorem w_classes (fk : Fk K cs) {E : EF} {S : List Cell} {Q : O → List Cell → Prop} {C : Addr} {fs : List (Str × D)} {i : Nat} (T : ExcC K C) (hi : i < 31) (hC : (errL cs).getD i 0 = C) (h : Q (.d (.lst (bsL i 31))) S) : m__law_classes K cs [.err C fs] E S Q := by
  unfold m__law_classes b__law_classes
  simp only [mk, st0, List.map_cons, List.map_nil, List.cons_append, List.nil_append, List.length_cons, List.length_nil, Nat.reduceSub, Nat.reduceAdd, List.replicate]
  refine seq_go fun N k => (eo_lst evA_nil (by show 0 ≤ 1000; decide)) _ (k _ ?_)
  clear k
  show sSeq _ _ _ _ ⟨[.d (.err C fs), .lst (bsL i 0)], S, false, false⟩
  refine ext2 (j := 0) fk T hi hC (by decide) rfl rfl ?_
  refine ext2 (j := 2) fk T hi hC (by decide) rfl rfl ?_
  refine ext2 (j := 4) fk T hi hC (by decide) rfl rfl ?_
  refine ext2 (j := 6) fk T hi hC (by decide) rfl rfl ?_
  refine ext2 (j := 8) fk T hi hC (by decide) rfl rfl ?_
  refine ext2 (j := 10) fk T hi hC (by decide) rfl rfl ?_
  refine ext2 (j := 12) fk T hi hC (by decide) rfl rfl ?_
  refine ext2 (j := 14) fk T hi hC (by decide) rfl rfl ?_
  refine ext2 (j := 16) fk T hi hC (by decide) rfl rfl ?_
  refine ext2 (j := 18) fk T hi hC (by decide) rfl rfl ?_
  refine ext2 (j := 20) fk T hi hC (by decide) rfl rfl ?_
  refine ext2 (j := 22) fk T hi hC (by decide) rfl rfl ?_
  refine ext2 (j := 24) fk T hi hC (by decide) rfl rfl ?_
  refine ext2 (j := 26) fk T hi hC (by decide) rfl rfl ?_
  refine ext3 (j := 28) fk T hi hC (by decide) rfl rfl rfl ?_
  exact sRet_own rfl h
theorem bs_count {i : Nat} (hi : i < 31) : ∃ bs, boolsD (bsL i 31) = some bs ∧ bs.count true = 1 := by
  have h : ∀ i, i < 31 → ((boolsD (bsL i 31)).map (List.count true) == some 1) = true := by decide +kernel
  obtain ⟨bs, e1, e2⟩ := Option.map_eq_some_iff.mp (beq_iff_eq.mp (h i hi))
  exact ⟨bs, e1, e2⟩
end Q
set_option pp.maxSteps 2000
/-! the law -/
namespace Q
open PySem L2 PySem.Spec PyProof.Rows
variable {K : PySem.W.Frag} {cs : Cs}
theorem sorts_lt {i : Nat} (hi : i < 31) : errS.getD i 9 < 4 := by
  have h : ∀ i, i < 31 → errS.getD i 9 < 4 := by decide
  exact h i hi
theorem w_sorts (fk : Fk K cs) {E : EF} {S : List Cell} {Q : O → List Cell → Prop} {C : Addr} {fs : List (Str × D)} {i : Nat} (T : ExcC K C) (hi : i < 31) (hC : (errL cs).getD i 0 = C) (h : Q (.d (.lst [.str (sname (errS.getD i 9))])) S) : m__law_sorts K cs [.err C fs] E S Q := by
  unfold m__law_sorts b__law_sorts
  simp only [mk, st0, List.map_cons, List.map_nil, List.cons_append, List.nil_append, List.length_cons, List.length_nil, Nat.reduceSub, Nat.reduceAdd, List.replicate]
  have n4 := sorts_lt hi
  refine seq_go fun N1 k1 => sSet_eo (o := .lst [.bl (decide (errS.getD i 9 = 0)), .bl (decide (errS.getD i 9 = 1))]) (eo_lst (evA_cons (ev_isB (j := 0) fk T hi hC (by decide) rfl rfl) (evA_cons (ev_isB (j := 1) fk T hi hC (by decide) rfl rfl) evA_nil)) (by show 2 ≤ 1000; decide)) (k1 _ ?_)
  clear k1
  refine seq_go fun N2 k2 => sSet_eo (o := .lst [.bl (decide (errS.getD i 9 = 0)), .bl (decide (errS.getD i 9 = 1)), .bl (decide (errS.getD i 9 = 2)), .bl (decide (errS.getD i 9 = 3))]) (eo_op (ev_V rfl) (ev_lst (evA_cons (ev_isB (j := 2) fk T hi hC (by decide) rfl rfl) (evA_cons (ev_isB (j := 3) fk T hi hC (by decide) rfl rfl) evA_nil)) (by show 2 ≤ 1000; decide)) rfl) (k2 _ ?_)
  clear k2
  refine seq_go fun N3 k3 => sIf_tv (b := false) (tv_ev (ev_od (eo_b (evA_cons (ev_V rfl) (evA_cons (ev_od (eo_tup (evA_cons ev_C (evA_cons ev_C (evA_cons ev_C evA_nil))) (by show 3 ≤ 1000; decide))) evA_nil)) fun J z => ⟨T, by
    show opt (PySem.W.kitAny K (.ref C) [.type "IndexError", .type "KeyError", .type "NotImplementedError"]) _
    rw [← hC, kD_at fk hi]
    exact z⟩))) (fun z => nomatch z) fun _ => k3 _ ?_
  clear k3
  show sRet _ _ _ ⟨[.d (.err C fs), .d (.lst [.bl (decide (errS.getD i 9 = 0)), .bl (decide (errS.getD i 9 = 1)), .bl (decide (errS.getD i 9 = 2)), .bl (decide (errS.getD i 9 = 3))]), .un, .un], S, false, false⟩
  generalize errS.getD i 9 = n at n4 h
  have c : n = 0 ∨ n = 1 ∨ n = 2 ∨ n = 3 := by omega
  rcases c with rfl | rfl | rfl | rfl
  all_goals
    simp [sRet, xU, xF, xLc, iZp, xCons, xNil, xLst, xC, xV, frzs, frz, opt, O.toD, zipD, lcW, gT, gsC, gN, gsN, xT, look, truD, Ps.wp, wipeO, sizeLine_eq]
    exact h
end Q
set_option pp.maxSteps 2000
/-! the law -/
namespace Q
open PySem L2 PySem.Spec PyProof.Rows
variable {K : PySem.W.Frag} {cs : Cs}
theorem neS_alike (s : Str) : neS (.str s) (.str s) = some (.d (.bl false)) := by
  simp [neS]
def showB (d : D) : Bool := match toR d with
  | some p => p.showable && (decide (p.depth ≤ 60) && decide (p.shown.length ≤ 100000))
  | none => false
theorem shows_p {d : D} (h : showB d = true) : ∃ p s, toR d = some p ∧ ∀ J : O → Prop, J (.d (.str s)) → showsQ p J := by
  unfold showB at h
  split at h
  · rename_i p e
    rw [Bool.and_eq_true, Bool.and_eq_true] at h
    exact ⟨p, p.shown, e, fun J z => ⟨h.1, of_decide_eq_true h.2.1, Nat.le_trans (of_decide_eq_true h.2.2) (by rw [sizeLine_eq]; decide), z⟩⟩
  · cases h
theorem rep_lst {xs : List D} (h : showB (.lst xs) = true) : ∃ s : Str, ∀ J : O → Prop, J (.d (.str s)) → reprR [.lst xs] J := by
  obtain ⟨p, s, e, k⟩ := shows_p h
  exact ⟨s, fun J z => by
    show opt (toR (.lst xs)) _
    rw [e]
    exact k J z⟩
def oneB (v : D) : Bool := match v with
  | .non => true
  | .bl _ => true
  | .int i => decide (i.natAbs.log2 < 1920)
  | .str s => decide ((reprText s).length ≤ 100000)
  | .lst xs => showB (.lst xs)
  | .tup xs => showB (.tup xs)
  | .dK xs => showB (.dK xs)
  | _ => false
theorem rep_one {v : D} (h : oneB v = true) : ∃ s : Str, ∀ J : O → Prop, J (.d (.str s)) → reprD [v] J := by
  cases v with
  | non => exact ⟨_, fun J z => z⟩
  | bl b => exact ⟨_, fun J z => z⟩
  | int i => exact ⟨_, fun J z => ⟨of_decide_eq_true h, z⟩⟩
  | str s => exact ⟨_, fun J z => ⟨Nat.le_trans (of_decide_eq_true (p := (reprText s).length ≤ 100000) h) (by rw [sizeLine_eq]; decide), z⟩⟩
  | lst xs =>
    obtain ⟨s, k⟩ := rep_lst (xs := xs) h
    exact ⟨s, fun J z => k J z⟩
  | tup xs =>
    obtain ⟨p, s, e, k⟩ := shows_p (d := .tup xs) h
    exact ⟨s, fun J z => by
      show opt (toR (.tup xs)) _
      rw [e]
      exact k J z⟩
  | dK xs =>
    obtain ⟨p, s, e, k⟩ := shows_p (d := .dK xs) h
    exact ⟨s, fun J z => by
      show opt (toR (.dK xs)) _
      rw [e]
      exact k J z⟩
  | _ => cases h
theorem av_shows : ∀ v ∈ av1 ++ av2 ++ av3 ++ av4, oneB v = true ∧ showB (.lst [v, v]) = true := by
  have h : (av1 ++ av2 ++ av3 ++ av4).all (fun v => oneB v && showB (.lst [v, v])) = true := by decide +kernel
  rw [List.all_eq_true] at h
  intro v hv
  have := h v hv
  rw [Bool.and_eq_true] at this
  exact this
theorem neG_of {a b : D} {x : Bool} (h : eqP a b = some x) : neG a b = some (.d (.bl (!x))) := by
  unfold neG
  rw [h]
theorem eqG_of {a b : D} {x : Bool} (h : eqP a b = some x) : eqG a b = some (.d (.bl x)) := by
  unfold eqG
  rw [h]
theorem neG_sn {n : Nat} : neG (.lst [.str (sname n)]) (.lst [.str (sname n)]) = some (.d (.bl false)) := by
  have h : eqP (.lst [.str (sname n)]) (.lst [.str (sname n)]) = some true := by
    unfold sname
    split
    · decide +kernel
    split
    · decide +kernel
    split
    · decide +kernel
    · decide +kernel
  exact neG_of h
section
variable {En : En} {E : EK} {R : List Cell} {d0 v : D} {n : Nat} {s s2 : Str} {o2 o3 o4 o5 o9 o10 o11 : O} {zs : List D}
/-- the law's look at one error -/
abbrev l1 (K : PySem.W.Frag) (cs : Cs) : Sx := (sIf (xOrT (xTO (xOp neS (xF (xB reprR (xCons (xF (xLst (xCons (xV 9) (xCons (xV 10) xNil)))) xNil))) (xF (xB reprR (xCons (xF (xLst (xCons (xV 6) (xCons (xV 6) xNil)))) xNil))))) (xTO (xOp neG (xF (xP 1 (m__law_sorts K cs) (xCons (xV 4) xNil))) (xF (xLst (xCons (xV 11) xNil)))))) (sRet (xU (xC (.bl false)))) sNx)
abbrev l2 (K : PySem.W.Frag) (cs : Cs) : Sx := (sIf (xOrT (xTO (xOp neG (xF (xCnt (xF (xP 1 (m__law_classes K cs) (xCons (xV 4) xNil))))) (xC (.int 1)))) (xTO (xOp neS (xF (xB reprD (xCons (xV 6) xNil))) (xV 7)))) (sRet (xU (xC (.bl false)))) sNx)
theorem w_look (fk : Fk K cs) {C : Addr} {fs : List (Str × D)} {i : Nat} (T : ExcC K C) (hi : i < 31) (hC : (errL cs).getD i 0 = C) (hs : ∀ J : O → Prop, J (.d (.str s)) → reprD [v] J) (hs2 : ∀ J : O → Prop, J (.d (.str s2)) → reprR [.lst [v, v]] J)
    (h : En.nx ⟨[.d d0, .d (.cell 0), o2, o3, .d (.err C fs), o5, .d v, .d (.str s), .d (.lst zs), .d v, .d v, .d (.str (sname (errS.getD i 9)))], .pen n :: R, true, false⟩) :
    sSeq (l1 K cs) (l2 K cs) E En ⟨[.d d0, .d (.cell 0), o2, o3, .d (.err C fs), o5, .d v, .d (.str s), .d (.lst zs), .d v, .d v, .d (.str (sname (errS.getD i 9)))], .pen n :: R, true, false⟩ := by
  have p2 : ∀ {E : EK} {st : Ps} {i j : Nat}, st.ρ[i]? = some (.d v) → st.ρ[j]? = some (.d v) → Ev (xF (xB reprR (xCons (xF (xLst (xCons (xV i) (xCons (xV j) xNil)))) xNil))) E st (.str s2) := fun e1 e2 => ev_od (eo_b1 (ev_lst (evA_cons (ev_V e1) (evA_cons (ev_V e2) evA_nil)) (by show 2 ≤ 1000; decide)) fun J z => hs2 J z)
  refine seq_go fun N k => sIf_tv (b := false) (tv_or (a := false) (b := false) (tv_o (eo_op (p2 rfl rfl) (p2 rfl rfl) (neS_alike s2))) fun _ => tv_o (eo_op (ev_od (d := .lst [.str (sname (errS.getD i 9))]) (eo_P (ds := [.err C fs]) (evA_cons (ev_V rfl) evA_nil) rfl fun E' Q z => w_sorts fk T hi hC z)) (ev_lst (evA_cons (ev_V rfl) evA_nil) (by show 1 ≤ 1000; decide)) neG_sn)) (fun z => nomatch z) fun _ => k _ ?_
  clear k
  obtain ⟨bs, b1, b2⟩ := bs_count hi
  refine sIf_tv (b := false) (tv_or (a := false) (b := false) (tv_o (eo_op (ev_od (d := .int 1) ?_) ev_C (neI (a := 1) (b := 1)))) fun _ => tv_o (eo_op (ev_od (eo_b1 (ev_V rfl) fun J z => hs J z)) (ev_V rfl) (neS_alike s))) (fun z => nomatch z) fun _ => h
  intro Q z
  refine (ev_od (d := .lst (bsL i 31)) (eo_P (ds := [.err C fs]) (evA_cons (ev_V rfl) evA_nil) rfl fun E' Q z => w_classes fk T hi hC z)) _ ⟨bsL i 31, bs, rfl, b1, ?_⟩
  rw [b2]
  exact z
theorem rep_txt {xs : List D} {s : Str} (h : (match toR (.lst xs) with
  | some p => p.showable && (decide (p.depth ≤ 60) && (decide (p.shown.length ≤ 100000) && decide (p.shown = s)))
  | none => false) = true) (J : O → Prop) (z : J (.d (.str s))) : reprR [.lst xs] J := by
  show opt (toR (.lst xs)) _
  split at h
  · rename_i p e
    rw [e]
    simp only [Bool.and_eq_true, decide_eq_true_eq] at h
    exact ⟨h.1, h.2.1, Nat.le_trans h.2.2.1 (by rw [sizeLine_eq]; decide), by rw [h.2.2.2]; exact z⟩
  · cases h
theorem w_tail (fk : Fk K cs) {o6 o7 o8 : O} {n3 : List Cell} (h : ∀ st : Ps, En.rt (.d (.bl true)) st) :
    (sSeq (sSetO 3 (xLst (xCons (xC (.int 1)) xNil)))
    (sSeq (sLate 3 4 cs.InvalidRow "value" 2)
    (sSeq (sIf (xTO (xOp neG (xF (xUn (fdvG K "value") (xV 4))) (xF (xLst (xCons (xC (.int 1)) (xCons (xC (.int 2)) xNil)))))) (sRet (xU (xC (.bl false)))) sNx)
    (sSeq (sSet 5 (xLst (xCons (xC (.int 8)) (xCons (xC (.int 4)) (xCons (xC (.int 3)) (xCons (xC (.int 5)) (xCons (xC (.int 2)) (xCons (xC (.int 3)) (xCons (xC (.int 3)) xNil)))))))))
    (sSeq (sIf (xTO (xOp neS (xF (xB reprR (xCons (xV 5) xNil))) (xC (.str "[8, 4, 3, 5, 2, 3, 3]")))) (sRet (xU (xC (.bl false)))) sNx)
    (sRet (xU (xF (xOp eqG (xF (xB reprR (xCons (xF (xLst (xCons (xC (.int 16)) (xCons (xC (.int 6)) (xCons (xC (.int 200)) (xCons (xC (.int 8)) (xCons (xC (.int 4)) xNil))))))) xNil))) (xC (.str "[16, 6, 200, 8, 4]"))))))))))) E En
      ⟨[.d d0, .d (.cell 0), o2, o3, o4, o5, o6, o7, o8, o9, o10, o11], n3, true, false⟩ := by
  refine seq_go fun N1 k1 => (eo_lst (ds := [.int 1]) (evA_cons ev_C evA_nil) (by show 1 ≤ 1000; decide)) _ (k1 _ ?_)
  clear k1
  refine seq_go fun N2 k2 => ⟨by decide, by rw [sizeLine_eq]; decide, k2 _ ?_⟩
  clear k2
  refine seq_go fun N3 k3 => sIf_tv (b := false) (tv_o (eo_op (d1 := .lst [.int 1, .int 2]) (ev_od (eo_fdv (C := cs.InvalidRow) (fs := [("value", .lst [.int 1, .int 2])]) (ev_V rfl) fk.ck_InvalidRow.xf (fk.ck_InvalidRow.no _ (by decide)) rfl)) (ev_lst (evA_cons ev_C (evA_cons ev_C evA_nil)) (by show 2 ≤ 1000; decide)) (neG_of (x := true) (by decide +kernel)))) (fun z => nomatch z) fun _ => k3 _ ?_
  clear k3
  refine seq_go fun N4 k4 => sSet_eo (o := .lst [.int 8, .int 4, .int 3, .int 5, .int 2, .int 3, .int 3]) (eo_lst (evA_cons ev_C (evA_cons ev_C (evA_cons ev_C (evA_cons ev_C (evA_cons ev_C (evA_cons ev_C (evA_cons ev_C evA_nil))))))) (by show 7 ≤ 1000; decide)) (k4 _ ?_)
  clear k4
  refine seq_go fun N5 k5 => sIf_tv (b := false) (tv_o (eo_op (ev_od (eo_b1 (ev_V (d := .lst [.int 8, .int 4, .int 3, .int 5, .int 2, .int 3, .int 3]) rfl) fun J z => rep_txt (s := "[8, 4, 3, 5, 2, 3, 3]") (by decide +kernel) J z)) ev_C (neS_alike _))) (fun z => nomatch z) fun _ => k5 _ ?_
  clear k5
  exact sRet_eo (eo_u (ev_od (eo_op (ev_od (eo_b1 (ev_lst (ds := [.int 16, .int 6, .int 200, .int 8, .int 4]) (evA_cons ev_C (evA_cons ev_C (evA_cons ev_C (evA_cons ev_C (evA_cons ev_C evA_nil))))) (by show 5 ≤ 1000; decide)) fun J z => rep_txt (s := "[16, 6, 200, 8, 4]") (by decide +kernel) J z)) ev_C (eqG_of (x := true) (by decide +kernel))))) (h _)
end
theorem plain_law (fk : Fk K cs) : ∀ d ns, ScrD K d ns → ns.length ≤ 63 → m_law K cs [d] (fun _ _ _ => False) [] fun o _ => o = .d (.bl true) := by
  intro d0 ns hd hl
  unfold m_law b_law
  simp only [mk, st0, List.map_cons, List.map_nil, List.cons_append, List.nil_append, List.length_cons, List.length_nil, Nat.reduceSub, Nat.reduceAdd, List.replicate]
  refine seq_go fun N1 h1 => ?_
  simp only [mk, sRet, sRetN, sSeq, sNx, sIf, sSet, sSetO, sEx, xU, xF, xB, xCons, xNil, xV, xC, xMv, st0, opt, looks, look, frz, frzs, isiG, tyG, clsG, clssG, O.toD, xAnd, xOr, xNot, xIf, xIfO, xT, xTO, xNotT, xAndT, xOrT, xIfT, xYes, xOp, xUn, xTup, xLst, xCh, xLc, xDc, iA, itemsD, gN, gT, gsC, gsN, sFor, sAsg, isB, iiG0, lenG, listG, tupG, leG, ltG, geG, gtG, intG, Ps.wp, wipeO, xP, xE, cP, cE, isSc, List.map_cons, List.map_nil, List.cons_append, List.nil_append, List.length_cons, List.length_nil, List.getElem?_cons_zero, List.getElem?_cons_succ, List.replicate, List.set_cons_zero, List.set_cons_succ, Nat.reduceSub, Nat.reduceAdd, if_true, if_false, Bool.false_eq_true, reduceCtorEq, truD, Bool.not_true, Bool.not_false, Option.map_some, at0, at1, at2, eqI, neI, true_and, and_true, implies_true, ne_eq, not_false_eq_true, Nat.reduceEqDiff, m__law_pen]
  refine ⟨ns, hd, hl, h1 _ (seq_go fun N2 h2 => ?_)⟩
  clear h1
  have hlen : ∀ {E : EK} {st : Ps}, st.ρ[0]? = some (.d d0) → Ev (xF (xB (lenScrG K) (xCons (xV 0) xNil))) E st (.int (ns.length : Nat)) := fun hs => ev_od (eo_b1 (ev_V hs) fun J z => by
    rcases hd with rfl | ⟨a, rfl, hk⟩
    · exact z
    · exact ⟨ns, hk, z⟩)
  have hmin : ∀ {E : EK} {st : Ps}, st.ρ[0]? = some (.d d0) → Ev (xF (xOp addG (xC (.int 3)) (xF (xB minG (xCons (xC (.int 5)) (xCons (xF (xB (lenScrG K) (xCons (xV 0) xNil))) xNil)))))) E st (.int ((3 + min 5 ns.length : Nat) : Int)) := fun hs => ev_od (eo_op ev_C (ev_od (eo_b (o := .d (.int ((min 5 ns.length : Nat) : Int))) (evA_cons ev_C (evA_cons (hlen hs) evA_nil)) fun J z => by
    show J (.d (.int (if ((ns.length : Nat) : Int) < 5 then ((ns.length : Nat) : Int) else 5)))
    have e : (if ((ns.length : Nat) : Int) < 5 then ((ns.length : Nat) : Int) else 5) = ((min 5 ns.length : Nat) : Int) := by
      split <;> omega
    rw [e]
    exact z)) (by rw [addI]; congr 3 <;> omega))
  simp only [sFor, iR1]
  refine (evA_cons (hmin rfl) evA_nil) _ ?_
  refine ⟨⟨by omega, by omega⟩, ?_⟩
  refine forW_by (fun ds st => ∃ (n : Nat) (R : List Cell) (o2 o3 o4 o5 o6 o7 o8 o9 o10 o11 : O), ds.length ≤ 8 ∧ n + 10 * ds.length ≤ 200 ∧ st = ⟨[.d d0, .d (.cell 0), o2, o3, o4, o5, o6, o7, o8, o9, o10, o11], .pen n :: R, true, false⟩) ?_ ?_ _ _ ⟨0, [], _, _, _, _, _, _, _, _, _, _, by rw [rng_len]; omega, by rw [rng_len]; omega, rfl⟩
  · rintro st ⟨n, R, o2, o3, o4, o5, o6, o7, o8, o9, o10, o11, e1, e2, rfl⟩
    exact h2 _ (w_tail fk fun st => rfl)
  clear h2
  rintro dt ds st ⟨n, R, o2, o3, o4, o5, o6, o7, o8, o9, o10, o11, e1, e2, rfl⟩ N hN
  rw [List.length_cons] at e1 e2
  simp only [gN, gT, gsC, gsN, xYes, if_true, true_and, and_true, List.length_cons, List.length_nil, Nat.reduceAdd, Nat.zero_add, List.set_cons_zero, List.set_cons_succ, Ps.wp, wipeO]
  refine seq_go fun A0 a0 => sSet_h (xE_of [.cell 0] (evA_cons (ev_V rfl) evA_nil) (fun _ => rfl) rfl (w_any_value (by omega) fun v hv => a0 _ ?_))
  clear a0
  obtain ⟨v1, v2⟩ := av_shows v hv
  obtain ⟨s, hs⟩ := rep_one v1
  obtain ⟨s2, hs2⟩ := rep_lst v2
  show sSeq _ _ _ _ ⟨[.d d0, .d (.cell 0), .d dt, o3, o4, o5, .d v, o7, o8, o9, o10, o11], .pen (n + 1) :: R, true, false⟩
  refine seq_go fun A1 a1 => sSet_eo (o := .d (.str s)) (eo_b1 (ev_V rfl) fun J z => hs J z) (a1 _ ?_)
  clear a1
  have sc : ∀ xs : List D, isSc (.d (.lst xs)) = false := fun xs => rfl
  refine seq_go fun A2 a2 => sSet_h (xF_go (xP_of [v] (evA_cons (ev_V rfl) evA_nil) rfl (w_some fk fun z1 B1 => ?_)))
  rw [sc, if_neg (by decide)]
  refine xF_go (xP_of [v] (evA_cons (ev_V rfl) evA_nil) rfl (w_other fk fun z2 B2 => ?_))
  rw [sc, if_neg (by decide)]
  show opt (addG (.lst z1) (.lst z2)) _
  rw [addL (by rw [B1.2, B2.2]; decide)]
  have hz : ∀ y ∈ z1 ++ z2, EntOk K cs v y := fun y h => (List.mem_append.mp h).elim (B1.1 y) (B2.1 y)
  generalize z1 ++ z2 = zs at hz
  refine a2 _ ?_
  clear a2
  show sFor _ _ _ _ _ ⟨[.d d0, .d (.cell 0), .d dt, o3, o4, o5, .d v, .d (.str s), .d (.lst zs), o9, o10, o11], .pen (n + 1) :: R, true, false⟩
  simp only [sFor, iA]
  refine xV_go rfl ?_
  show forW _ _ _ _ zs _
  refine forW_by (fun ds st => (∀ y ∈ ds, EntOk K cs v y) ∧ ∃ o4 o9 o10 o11 : O, st = ⟨[.d d0, .d (.cell 0), .d dt, o3, o4, o5, .d v, .d (.str s), .d (.lst zs), o9, o10, o11], .pen (n + 1) :: R, true, false⟩) ?_ ?_ _ _ ⟨hz, _, _, _, _, rfl⟩
  · rintro st ⟨_, o4, o9, o10, o11, rfl⟩
    exact hN _ ⟨n + 1, R, _, _, _, _, _, _, _, _, _, _, by omega, by omega, rfl⟩
  rintro y ys st ⟨hy, o4, o9, o10, o11, rfl⟩ N2 hN2
  obtain ⟨i, C, fs, hi, hC, T, rfl⟩ := hy y List.mem_cons_self
  simp only [gN, gT, gsC, gsN, xYes, if_true, true_and, and_true, List.length_cons, List.length_nil, Nat.reduceAdd, Nat.zero_add, List.set_cons_zero, List.set_cons_succ, Ps.wp, wipeO]
  exact w_look fk T hi hC hs hs2 (hN2 _ ⟨fun z h => hy z (List.mem_cons_of_mem _ h), _, _, _, _, rfl⟩)
end Q
namespace Q
open PySem L2 PySem.Spec PyProof.Rows NdefX LamX
theorem all_mk {l : PySem.W.OpenLaw} {w : World} {K : PySem.W.Frag} {h : Heap} {mg : Str → Option Value} {fa C_InvalidTable C_InvalidSchema C_InvalidRow C_OtherSchema C_InvalidRule C_Misfit C_Circle C_InvalidFact C_InvalidChange C_InvalidAnswer C_InvalidTemplate C_InvalidNames C_InvalidPair C_InvalidLimit C_Unreadable C_NoLine C_UnknownTable C_UnknownColumn C_OutOfRange C_NoAnswer C_NoCase C_NoBranch C_Nothing C_TooMany C_TooDear C_Broken C_Unfit C_NeverFits C_Refused C_LookFailed C_NoLook a_InvalidTable___init__ cc_InvalidTable___init__ co_InvalidTable___init__ a_InvalidRow___init__ cc_InvalidRow___init__ co_InvalidRow___init__ a_InvalidRule___init__ cc_InvalidRule___init__ co_InvalidRule___init__ a_Misfit___init__ cc_Misfit___init__ co_Misfit___init__ a_Circle___init__ cc_Circle___init__ co_Circle___init__ a_InvalidFact___init__ cc_InvalidFact___init__ co_InvalidFact___init__ a_InvalidChange___init__ cc_InvalidChange___init__ co_InvalidChange___init__ a_InvalidAnswer___init__ cc_InvalidAnswer___init__ co_InvalidAnswer___init__ a_InvalidTemplate___init__ cc_InvalidTemplate___init__ co_InvalidTemplate___init__ a_InvalidNames___init__ cc_InvalidNames___init__ co_InvalidNames___init__ a_InvalidLimit___init__ cc_InvalidLimit___init__ co_InvalidLimit___init__ a_Unreadable___init__ cc_Unreadable___init__ co_Unreadable___init__ a_UnknownTable___init__ cc_UnknownTable___init__ co_UnknownTable___init__ a_UnknownColumn___init__ cc_UnknownColumn___init__ co_UnknownColumn___init__ a_OutOfRange___init__ cc_OutOfRange___init__ co_OutOfRange___init__ a_NoAnswer___init__ cc_NoAnswer___init__ co_NoAnswer___init__ a_NoCase___init__ cc_NoCase___init__ co_NoCase___init__ a_NoBranch___init__ cc_NoBranch___init__ co_NoBranch___init__ a_TooMany___init__ cc_TooMany___init__ co_TooMany___init__ a_TooDear___init__ cc_TooDear___init__ co_TooDear___init__ a_Broken___init__ cc_Broken___init__ co_Broken___init__ a_Unfit___init__ cc_Unfit___init__ co_Unfit___init__ a_Refused___init__ cc_Refused___init__ co_Refused___init__ a_LookFailed___init__ cc_LookFailed___init__ co_LookFailed___init__ a_NoLook___init__ cc_NoLook___init__ co_NoLook___init__ a__law_pen a__law_draw a__law_pick a__law_any_value a__law_some_errors a__law_other_errors a__law_classes a__law_sorts a_law : Addr} {t_MAX_WORD t_MAX_TABLES t_MAX_COLUMNS t_MAX_STATEMENTS t_MAX_LEAST t_MAX_MOST t_MAX_ENTRIES t_MAX_WANTED t_MAX_PAPER t_MAX_ANSWERS t_MAX_OPEN t_MAX_NAMES : Tok} (X : K.In h) (G : h.Ns mainGlobals mg) (hfa : mg "law" = some (.ref fa))
    {od_InvalidTable___init__ an_InvalidTable___init__ : Option Addr} {sl_InvalidTable___init__ : Array (Option Value)} {oc_InvalidTable___init__ kV_InvalidTable___init__ dc_InvalidTable___init__ pm_InvalidTable___init__ ct_InvalidTable___init__ : Value}
    {ccl_InvalidTable___init__ coc_InvalidTable___init__ : Value} {ccd_InvalidTable___init__ cod_InvalidTable___init__ : Option Addr} {ccs_InvalidTable___init__ cos_InvalidTable___init__ : Array (Option Value)} {vs_InvalidTable___init__ : Array Value} {fl_InvalidTable___init__ : Str} {tf_InvalidTable___init__ : Tok}
    {od_InvalidRow___init__ an_InvalidRow___init__ : Option Addr} {sl_InvalidRow___init__ : Array (Option Value)} {oc_InvalidRow___init__ kV_InvalidRow___init__ dc_InvalidRow___init__ pm_InvalidRow___init__ ct_InvalidRow___init__ : Value}
    {ccl_InvalidRow___init__ coc_InvalidRow___init__ : Value} {ccd_InvalidRow___init__ cod_InvalidRow___init__ : Option Addr} {ccs_InvalidRow___init__ cos_InvalidRow___init__ : Array (Option Value)} {vs_InvalidRow___init__ : Array Value} {fl_InvalidRow___init__ : Str} {tf_InvalidRow___init__ : Tok}
    {od_InvalidRule___init__ an_InvalidRule___init__ : Option Addr} {sl_InvalidRule___init__ : Array (Option Value)} {oc_InvalidRule___init__ kV_InvalidRule___init__ dc_InvalidRule___init__ pm_InvalidRule___init__ ct_InvalidRule___init__ : Value}
    {ccl_InvalidRule___init__ coc_InvalidRule___init__ : Value} {ccd_InvalidRule___init__ cod_InvalidRule___init__ : Option Addr} {ccs_InvalidRule___init__ cos_InvalidRule___init__ : Array (Option Value)} {vs_InvalidRule___init__ : Array Value} {fl_InvalidRule___init__ : Str} {tf_InvalidRule___init__ : Tok}
    {od_Misfit___init__ an_Misfit___init__ : Option Addr} {sl_Misfit___init__ : Array (Option Value)} {oc_Misfit___init__ kV_Misfit___init__ dc_Misfit___init__ pm_Misfit___init__ ct_Misfit___init__ : Value}
    {ccl_Misfit___init__ coc_Misfit___init__ : Value} {ccd_Misfit___init__ cod_Misfit___init__ : Option Addr} {ccs_Misfit___init__ cos_Misfit___init__ : Array (Option Value)} {vs_Misfit___init__ : Array Value} {fl_Misfit___init__ : Str} {tf_Misfit___init__ : Tok}
    {od_Circle___init__ an_Circle___init__ : Option Addr} {sl_Circle___init__ : Array (Option Value)} {oc_Circle___init__ kV_Circle___init__ dc_Circle___init__ pm_Circle___init__ ct_Circle___init__ : Value}
    {ccl_Circle___init__ coc_Circle___init__ : Value} {ccd_Circle___init__ cod_Circle___init__ : Option Addr} {ccs_Circle___init__ cos_Circle___init__ : Array (Option Value)} {vs_Circle___init__ : Array Value} {fl_Circle___init__ : Str} {tf_Circle___init__ : Tok}
    {od_InvalidFact___init__ an_InvalidFact___init__ : Option Addr} {sl_InvalidFact___init__ : Array (Option Value)} {oc_InvalidFact___init__ kV_InvalidFact___init__ dc_InvalidFact___init__ pm_InvalidFact___init__ ct_InvalidFact___init__ : Value}
    {ccl_InvalidFact___init__ coc_InvalidFact___init__ : Value} {ccd_InvalidFact___init__ cod_InvalidFact___init__ : Option Addr} {ccs_InvalidFact___init__ cos_InvalidFact___init__ : Array (Option Value)} {vs_InvalidFact___init__ : Array Value} {fl_InvalidFact___init__ : Str} {tf_InvalidFact___init__ : Tok}
    {od_InvalidChange___init__ an_InvalidChange___init__ : Option Addr} {sl_InvalidChange___init__ : Array (Option Value)} {oc_InvalidChange___init__ kV_InvalidChange___init__ dc_InvalidChange___init__ pm_InvalidChange___init__ ct_InvalidChange___init__ : Value}
    {ccl_InvalidChange___init__ coc_InvalidChange___init__ : Value} {ccd_InvalidChange___init__ cod_InvalidChange___init__ : Option Addr} {ccs_InvalidChange___init__ cos_InvalidChange___init__ : Array (Option Value)} {vs_InvalidChange___init__ : Array Value} {fl_InvalidChange___init__ : Str} {tf_InvalidChange___init__ : Tok}
    {od_InvalidAnswer___init__ an_InvalidAnswer___init__ : Option Addr} {sl_InvalidAnswer___init__ : Array (Option Value)} {oc_InvalidAnswer___init__ kV_InvalidAnswer___init__ dc_InvalidAnswer___init__ pm_InvalidAnswer___init__ ct_InvalidAnswer___init__ : Value}
    {ccl_InvalidAnswer___init__ coc_InvalidAnswer___init__ : Value} {ccd_InvalidAnswer___init__ cod_InvalidAnswer___init__ : Option Addr} {ccs_InvalidAnswer___init__ cos_InvalidAnswer___init__ : Array (Option Value)} {vs_InvalidAnswer___init__ : Array Value} {fl_InvalidAnswer___init__ : Str} {tf_InvalidAnswer___init__ : Tok}
    {od_InvalidTemplate___init__ an_InvalidTemplate___init__ : Option Addr} {sl_InvalidTemplate___init__ : Array (Option Value)} {oc_InvalidTemplate___init__ kV_InvalidTemplate___init__ dc_InvalidTemplate___init__ pm_InvalidTemplate___init__ ct_InvalidTemplate___init__ : Value}
    {ccl_InvalidTemplate___init__ coc_InvalidTemplate___init__ : Value} {ccd_InvalidTemplate___init__ cod_InvalidTemplate___init__ : Option Addr} {ccs_InvalidTemplate___init__ cos_InvalidTemplate___init__ : Array (Option Value)} {vs_InvalidTemplate___init__ : Array Value} {fl_InvalidTemplate___init__ : Str} {tf_InvalidTemplate___init__ : Tok}
    {od_InvalidNames___init__ an_InvalidNames___init__ : Option Addr} {sl_InvalidNames___init__ : Array (Option Value)} {oc_InvalidNames___init__ kV_InvalidNames___init__ dc_InvalidNames___init__ pm_InvalidNames___init__ ct_InvalidNames___init__ : Value}
    {ccl_InvalidNames___init__ coc_InvalidNames___init__ : Value} {ccd_InvalidNames___init__ cod_InvalidNames___init__ : Option Addr} {ccs_InvalidNames___init__ cos_InvalidNames___init__ : Array (Option Value)} {vs_InvalidNames___init__ : Array Value} {fl_InvalidNames___init__ : Str} {tf_InvalidNames___init__ : Tok}
    {od_InvalidLimit___init__ an_InvalidLimit___init__ : Option Addr} {sl_InvalidLimit___init__ : Array (Option Value)} {oc_InvalidLimit___init__ kV_InvalidLimit___init__ dc_InvalidLimit___init__ pm_InvalidLimit___init__ ct_InvalidLimit___init__ : Value}
    {ccl_InvalidLimit___init__ coc_InvalidLimit___init__ : Value} {ccd_InvalidLimit___init__ cod_InvalidLimit___init__ : Option Addr} {ccs_InvalidLimit___init__ cos_InvalidLimit___init__ : Array (Option Value)} {vs_InvalidLimit___init__ : Array Value} {fl_InvalidLimit___init__ : Str} {tf_InvalidLimit___init__ : Tok}
    {od_Unreadable___init__ an_Unreadable___init__ : Option Addr} {sl_Unreadable___init__ : Array (Option Value)} {oc_Unreadable___init__ kV_Unreadable___init__ dc_Unreadable___init__ pm_Unreadable___init__ ct_Unreadable___init__ : Value}
    {ccl_Unreadable___init__ coc_Unreadable___init__ : Value} {ccd_Unreadable___init__ cod_Unreadable___init__ : Option Addr} {ccs_Unreadable___init__ cos_Unreadable___init__ : Array (Option Value)} {vs_Unreadable___init__ : Array Value} {fl_Unreadable___init__ : Str} {tf_Unreadable___init__ : Tok}
    {od_UnknownTable___init__ an_UnknownTable___init__ : Option Addr} {sl_UnknownTable___init__ : Array (Option Value)} {oc_UnknownTable___init__ kV_UnknownTable___init__ dc_UnknownTable___init__ pm_UnknownTable___init__ ct_UnknownTable___init__ : Value}
    {ccl_UnknownTable___init__ coc_UnknownTable___init__ : Value} {ccd_UnknownTable___init__ cod_UnknownTable___init__ : Option Addr} {ccs_UnknownTable___init__ cos_UnknownTable___init__ : Array (Option Value)} {vs_UnknownTable___init__ : Array Value} {fl_UnknownTable___init__ : Str} {tf_UnknownTable___init__ : Tok}
    {od_UnknownColumn___init__ an_UnknownColumn___init__ : Option Addr} {sl_UnknownColumn___init__ : Array (Option Value)} {oc_UnknownColumn___init__ kV_UnknownColumn___init__ dc_UnknownColumn___init__ pm_UnknownColumn___init__ ct_UnknownColumn___init__ : Value}
    {ccl_UnknownColumn___init__ coc_UnknownColumn___init__ : Value} {ccd_UnknownColumn___init__ cod_UnknownColumn___init__ : Option Addr} {ccs_UnknownColumn___init__ cos_UnknownColumn___init__ : Array (Option Value)} {vs_UnknownColumn___init__ : Array Value} {fl_UnknownColumn___init__ : Str} {tf_UnknownColumn___init__ : Tok}
    {od_OutOfRange___init__ an_OutOfRange___init__ : Option Addr} {sl_OutOfRange___init__ : Array (Option Value)} {oc_OutOfRange___init__ kV_OutOfRange___init__ dc_OutOfRange___init__ pm_OutOfRange___init__ ct_OutOfRange___init__ : Value}
    {ccl_OutOfRange___init__ coc_OutOfRange___init__ : Value} {ccd_OutOfRange___init__ cod_OutOfRange___init__ : Option Addr} {ccs_OutOfRange___init__ cos_OutOfRange___init__ : Array (Option Value)} {vs_OutOfRange___init__ : Array Value} {fl_OutOfRange___init__ : Str} {tf_OutOfRange___init__ : Tok}
    {od_NoAnswer___init__ an_NoAnswer___init__ : Option Addr} {sl_NoAnswer___init__ : Array (Option Value)} {oc_NoAnswer___init__ kV_NoAnswer___init__ dc_NoAnswer___init__ pm_NoAnswer___init__ ct_NoAnswer___init__ : Value}
    {ccl_NoAnswer___init__ coc_NoAnswer___init__ : Value} {ccd_NoAnswer___init__ cod_NoAnswer___init__ : Option Addr} {ccs_NoAnswer___init__ cos_NoAnswer___init__ : Array (Option Value)} {vs_NoAnswer___init__ : Array Value} {fl_NoAnswer___init__ : Str} {tf_NoAnswer___init__ : Tok}
    {od_NoCase___init__ an_NoCase___init__ : Option Addr} {sl_NoCase___init__ : Array (Option Value)} {oc_NoCase___init__ kV_NoCase___init__ dc_NoCase___init__ pm_NoCase___init__ ct_NoCase___init__ : Value}
    {ccl_NoCase___init__ coc_NoCase___init__ : Value} {ccd_NoCase___init__ cod_NoCase___init__ : Option Addr} {ccs_NoCase___init__ cos_NoCase___init__ : Array (Option Value)} {vs_NoCase___init__ : Array Value} {fl_NoCase___init__ : Str} {tf_NoCase___init__ : Tok}
    {od_NoBranch___init__ an_NoBranch___init__ : Option Addr} {sl_NoBranch___init__ : Array (Option Value)} {oc_NoBranch___init__ kV_NoBranch___init__ dc_NoBranch___init__ pm_NoBranch___init__ ct_NoBranch___init__ : Value}
    {ccl_NoBranch___init__ coc_NoBranch___init__ : Value} {ccd_NoBranch___init__ cod_NoBranch___init__ : Option Addr} {ccs_NoBranch___init__ cos_NoBranch___init__ : Array (Option Value)} {vs_NoBranch___init__ : Array Value} {fl_NoBranch___init__ : Str} {tf_NoBranch___init__ : Tok}
    {od_TooMany___init__ an_TooMany___init__ : Option Addr} {sl_TooMany___init__ : Array (Option Value)} {oc_TooMany___init__ kV_TooMany___init__ dc_TooMany___init__ pm_TooMany___init__ ct_TooMany___init__ : Value}
    {ccl_TooMany___init__ coc_TooMany___init__ : Value} {ccd_TooMany___init__ cod_TooMany___init__ : Option Addr} {ccs_TooMany___init__ cos_TooMany___init__ : Array (Option Value)} {vs_TooMany___init__ : Array Value} {fl_TooMany___init__ : Str} {tf_TooMany___init__ : Tok}
    {od_TooDear___init__ an_TooDear___init__ : Option Addr} {sl_TooDear___init__ : Array (Option Value)} {oc_TooDear___init__ kV_TooDear___init__ dc_TooDear___init__ pm_TooDear___init__ ct_TooDear___init__ : Value}
    {ccl_TooDear___init__ coc_TooDear___init__ : Value} {ccd_TooDear___init__ cod_TooDear___init__ : Option Addr} {ccs_TooDear___init__ cos_TooDear___init__ : Array (Option Value)} {vs_TooDear___init__ : Array Value} {fl_TooDear___init__ : Str} {tf_TooDear___init__ : Tok}
    {od_Broken___init__ an_Broken___init__ : Option Addr} {sl_Broken___init__ : Array (Option Value)} {oc_Broken___init__ kV_Broken___init__ dc_Broken___init__ pm_Broken___init__ ct_Broken___init__ : Value}
    {ccl_Broken___init__ coc_Broken___init__ : Value} {ccd_Broken___init__ cod_Broken___init__ : Option Addr} {ccs_Broken___init__ cos_Broken___init__ : Array (Option Value)} {vs_Broken___init__ : Array Value} {fl_Broken___init__ : Str} {tf_Broken___init__ : Tok}
    {od_Unfit___init__ an_Unfit___init__ : Option Addr} {sl_Unfit___init__ : Array (Option Value)} {oc_Unfit___init__ kV_Unfit___init__ dc_Unfit___init__ pm_Unfit___init__ ct_Unfit___init__ : Value}
    {ccl_Unfit___init__ coc_Unfit___init__ : Value} {ccd_Unfit___init__ cod_Unfit___init__ : Option Addr} {ccs_Unfit___init__ cos_Unfit___init__ : Array (Option Value)} {vs_Unfit___init__ : Array Value} {fl_Unfit___init__ : Str} {tf_Unfit___init__ : Tok}
    {od_Refused___init__ an_Refused___init__ : Option Addr} {sl_Refused___init__ : Array (Option Value)} {oc_Refused___init__ kV_Refused___init__ dc_Refused___init__ pm_Refused___init__ ct_Refused___init__ : Value}
    {ccl_Refused___init__ coc_Refused___init__ : Value} {ccd_Refused___init__ cod_Refused___init__ : Option Addr} {ccs_Refused___init__ cos_Refused___init__ : Array (Option Value)} {vs_Refused___init__ : Array Value} {fl_Refused___init__ : Str} {tf_Refused___init__ : Tok}
    {od_LookFailed___init__ an_LookFailed___init__ : Option Addr} {sl_LookFailed___init__ : Array (Option Value)} {oc_LookFailed___init__ kV_LookFailed___init__ dc_LookFailed___init__ pm_LookFailed___init__ ct_LookFailed___init__ : Value}
    {ccl_LookFailed___init__ coc_LookFailed___init__ : Value} {ccd_LookFailed___init__ cod_LookFailed___init__ : Option Addr} {ccs_LookFailed___init__ cos_LookFailed___init__ : Array (Option Value)} {vs_LookFailed___init__ : Array Value} {fl_LookFailed___init__ : Str} {tf_LookFailed___init__ : Tok}
    {od_NoLook___init__ an_NoLook___init__ : Option Addr} {sl_NoLook___init__ : Array (Option Value)} {oc_NoLook___init__ kV_NoLook___init__ dc_NoLook___init__ pm_NoLook___init__ ct_NoLook___init__ : Value}
    {ccl_NoLook___init__ coc_NoLook___init__ : Value} {ccd_NoLook___init__ cod_NoLook___init__ : Option Addr} {ccs_NoLook___init__ cos_NoLook___init__ : Array (Option Value)} {vs_NoLook___init__ : Array Value} {fl_NoLook___init__ : Str} {tf_NoLook___init__ : Tok}
    {od__law_pen an__law_pen : Option Addr} {sl__law_pen : Array (Option Value)} {oc__law_pen kV__law_pen dc__law_pen pm__law_pen cd__law_pen ct__law_pen : Value}
    {od__law_draw an__law_draw : Option Addr} {sl__law_draw : Array (Option Value)} {oc__law_draw kV__law_draw dc__law_draw pm__law_draw cd__law_draw ct__law_draw : Value}
    {od__law_pick an__law_pick : Option Addr} {sl__law_pick : Array (Option Value)} {oc__law_pick kV__law_pick dc__law_pick pm__law_pick cd__law_pick ct__law_pick : Value}
    {od__law_any_value an__law_any_value : Option Addr} {sl__law_any_value : Array (Option Value)} {oc__law_any_value kV__law_any_value dc__law_any_value pm__law_any_value cd__law_any_value ct__law_any_value : Value}
    {od__law_some_errors an__law_some_errors : Option Addr} {sl__law_some_errors : Array (Option Value)} {oc__law_some_errors kV__law_some_errors dc__law_some_errors pm__law_some_errors cd__law_some_errors ct__law_some_errors : Value}
    {od__law_other_errors an__law_other_errors : Option Addr} {sl__law_other_errors : Array (Option Value)} {oc__law_other_errors kV__law_other_errors dc__law_other_errors pm__law_other_errors cd__law_other_errors ct__law_other_errors : Value}
    {od__law_classes an__law_classes : Option Addr} {sl__law_classes : Array (Option Value)} {oc__law_classes kV__law_classes dc__law_classes pm__law_classes cd__law_classes ct__law_classes : Value}
    {od__law_sorts an__law_sorts : Option Addr} {sl__law_sorts : Array (Option Value)} {oc__law_sorts kV__law_sorts dc__law_sorts pm__law_sorts cd__law_sorts ct__law_sorts : Value}
    {od_law an_law : Option Addr} {sl_law : Array (Option Value)} {oc_law kV_law dc_law pm_law cd_law ct_law : Value}
    (aC_InvalidTable : PySem.W.nsIn K mainGlobals "InvalidTable" = some (some (.ref C_InvalidTable)))
    (aC_InvalidSchema : PySem.W.nsIn K mainGlobals "InvalidSchema" = some (some (.ref C_InvalidSchema)))
    (aC_InvalidRow : PySem.W.nsIn K mainGlobals "InvalidRow" = some (some (.ref C_InvalidRow)))
    (aC_OtherSchema : PySem.W.nsIn K mainGlobals "OtherSchema" = some (some (.ref C_OtherSchema)))
    (aC_InvalidRule : PySem.W.nsIn K mainGlobals "InvalidRule" = some (some (.ref C_InvalidRule)))
    (aC_Misfit : PySem.W.nsIn K mainGlobals "Misfit" = some (some (.ref C_Misfit)))
    (aC_Circle : PySem.W.nsIn K mainGlobals "Circle" = some (some (.ref C_Circle)))
    (aC_InvalidFact : PySem.W.nsIn K mainGlobals "InvalidFact" = some (some (.ref C_InvalidFact)))
    (aC_InvalidChange : PySem.W.nsIn K mainGlobals "InvalidChange" = some (some (.ref C_InvalidChange)))
    (aC_InvalidAnswer : PySem.W.nsIn K mainGlobals "InvalidAnswer" = some (some (.ref C_InvalidAnswer)))
    (aC_InvalidTemplate : PySem.W.nsIn K mainGlobals "InvalidTemplate" = some (some (.ref C_InvalidTemplate)))
    (aC_InvalidNames : PySem.W.nsIn K mainGlobals "InvalidNames" = some (some (.ref C_InvalidNames)))
    (aC_InvalidPair : PySem.W.nsIn K mainGlobals "InvalidPair" = some (some (.ref C_InvalidPair)))
    (aC_InvalidLimit : PySem.W.nsIn K mainGlobals "InvalidLimit" = some (some (.ref C_InvalidLimit)))
    (aC_Unreadable : PySem.W.nsIn K mainGlobals "Unreadable" = some (some (.ref C_Unreadable)))
    (aC_NoLine : PySem.W.nsIn K mainGlobals "NoLine" = some (some (.ref C_NoLine)))
    (aC_UnknownTable : PySem.W.nsIn K mainGlobals "UnknownTable" = some (some (.ref C_UnknownTable)))
    (aC_UnknownColumn : PySem.W.nsIn K mainGlobals "UnknownColumn" = some (some (.ref C_UnknownColumn)))
    (aC_OutOfRange : PySem.W.nsIn K mainGlobals "OutOfRange" = some (some (.ref C_OutOfRange)))
    (aC_NoAnswer : PySem.W.nsIn K mainGlobals "NoAnswer" = some (some (.ref C_NoAnswer)))
    (aC_NoCase : PySem.W.nsIn K mainGlobals "NoCase" = some (some (.ref C_NoCase)))
    (aC_NoBranch : PySem.W.nsIn K mainGlobals "NoBranch" = some (some (.ref C_NoBranch)))
    (aC_Nothing : PySem.W.nsIn K mainGlobals "Nothing" = some (some (.ref C_Nothing)))
    (aC_TooMany : PySem.W.nsIn K mainGlobals "TooMany" = some (some (.ref C_TooMany)))
    (aC_TooDear : PySem.W.nsIn K mainGlobals "TooDear" = some (some (.ref C_TooDear)))
    (aC_Broken : PySem.W.nsIn K mainGlobals "Broken" = some (some (.ref C_Broken)))
    (aC_Unfit : PySem.W.nsIn K mainGlobals "Unfit" = some (some (.ref C_Unfit)))
    (aC_NeverFits : PySem.W.nsIn K mainGlobals "NeverFits" = some (some (.ref C_NeverFits)))
    (aC_Refused : PySem.W.nsIn K mainGlobals "Refused" = some (some (.ref C_Refused)))
    (aC_LookFailed : PySem.W.nsIn K mainGlobals "LookFailed" = some (some (.ref C_LookFailed)))
    (aC_NoLook : PySem.W.nsIn K mainGlobals "NoLook" = some (some (.ref C_NoLook)))
    (h_InvalidTable___init__ : PySem.W.findIn K (.ref C_InvalidTable) "__init__" = some (some (.ref a_InvalidTable___init__)))
    (l_InvalidTable___init__ : K.lookup a_InvalidTable___init__ = some ⟨oc_InvalidTable___init__, od_InvalidTable___init__, .func (PySem.W.fnX "__init__" "InvalidTable.__init__" (defArgs s_InvalidTable___init__) (defBody s_InvalidTable___init__) (defScope s_InvalidTable___init__) [(("__class__" : Str), cc_InvalidTable___init__)] .none kV_InvalidTable___init__ dc_InvalidTable___init__ pm_InvalidTable___init__ an_InvalidTable___init__ (.ref co_InvalidTable___init__) ct_InvalidTable___init__), sl_InvalidTable___init__⟩)
    (lc_InvalidTable___init__ : K.lookup cc_InvalidTable___init__ = some ⟨ccl_InvalidTable___init__, ccd_InvalidTable___init__, .cell (some (.ref C_InvalidTable)), ccs_InvalidTable___init__⟩)
    (c_InvalidTable___init__ : PySem.W.codeIn K (.ref co_InvalidTable___init__) "InvalidTable.__init__" = true)
    (k_InvalidTable___init__ : PySem.W.keepIn K (.ref a_InvalidTable___init__) = true)
    (if_InvalidTable___init__ : PySem.W.isFn K (.ref a_InvalidTable___init__) = true)
    (ca_InvalidTable___init__ : K.lookup co_InvalidTable___init__ = some ⟨coc_InvalidTable___init__, cod_InvalidTable___init__, .fields vs_InvalidTable___init__, cos_InvalidTable___init__⟩)
    (cb_InvalidTable___init__ : vs_InvalidTable___init__[2]? = some (.str fl_InvalidTable___init__ tf_InvalidTable___init__))
    (ce_InvalidTable___init__ : ((l.prog.main.file : Str) == fl_InvalidTable___init__) = true)
    (tp_InvalidTable___init__ : (l.prog.main.scope.names.lookup ("super" : Str)).isSome = false)
    (su_InvalidTable___init__ : PySem.W.mroIn K C_InvalidTable (.ref C_InvalidTable) = some true)
    (op_InvalidTable___init__ : PySem.W.nsIn K cStatics "thirdparty.any" = some none)
    (me_InvalidTable___init__ : PySem.W.ks_superIn K C_InvalidTable C_InvalidTable "__init__" = some (some (.builtin "ValueError.__init__")))
    (h_InvalidTable___init__ : PySem.W.findIn K (.ref C_InvalidTable) "__init__" = some (some (.ref a_InvalidTable___init__)))
    (ei_InvalidTable : PySem.W.excInitIn K C_InvalidTable [.type "ValueError", .type "Exception", .type "BaseException", .type "object"] "ValueError.__new__" = true)
    (eo_InvalidTable : PySem.W.excOver K C_InvalidTable [.type "ValueError", .type "Exception", .type "BaseException", .type "object"] = true)
    (ed_InvalidTable : PySem.W.hasDictIn K C_InvalidTable = true)
    (esa_InvalidTable : PySem.W.findIn K (.ref C_InvalidTable) "__setattr__" = some (some (.builtin "object.__setattr__")))
    (eb_InvalidTable : PySem.W.subIn K (.ref C_InvalidTable) (.type "BaseException") = some true)
    (es_InvalidTable : PySem.W.subIn K (.ref C_InvalidTable) (.type "ValueError") = some true)
    (et_InvalidTable : PySem.W.typeIn K (.ref C_InvalidTable) = some (.type "type"))
    (kc_InvalidTable : PySem.W.keepIn K (.ref C_InvalidTable) = true)
    (tk_InvalidTable_argument : PySem.W.takerIn K C_InvalidTable "argument" = some none)
    (h_InvalidRow___init__ : PySem.W.findIn K (.ref C_InvalidRow) "__init__" = some (some (.ref a_InvalidRow___init__)))
    (l_InvalidRow___init__ : K.lookup a_InvalidRow___init__ = some ⟨oc_InvalidRow___init__, od_InvalidRow___init__, .func (PySem.W.fnX "__init__" "InvalidRow.__init__" (defArgs s_InvalidRow___init__) (defBody s_InvalidRow___init__) (defScope s_InvalidRow___init__) [(("__class__" : Str), cc_InvalidRow___init__)] .none kV_InvalidRow___init__ dc_InvalidRow___init__ pm_InvalidRow___init__ an_InvalidRow___init__ (.ref co_InvalidRow___init__) ct_InvalidRow___init__), sl_InvalidRow___init__⟩)
    (lc_InvalidRow___init__ : K.lookup cc_InvalidRow___init__ = some ⟨ccl_InvalidRow___init__, ccd_InvalidRow___init__, .cell (some (.ref C_InvalidRow)), ccs_InvalidRow___init__⟩)
    (c_InvalidRow___init__ : PySem.W.codeIn K (.ref co_InvalidRow___init__) "InvalidRow.__init__" = true)
    (k_InvalidRow___init__ : PySem.W.keepIn K (.ref a_InvalidRow___init__) = true)
    (if_InvalidRow___init__ : PySem.W.isFn K (.ref a_InvalidRow___init__) = true)
    (ca_InvalidRow___init__ : K.lookup co_InvalidRow___init__ = some ⟨coc_InvalidRow___init__, cod_InvalidRow___init__, .fields vs_InvalidRow___init__, cos_InvalidRow___init__⟩)
    (cb_InvalidRow___init__ : vs_InvalidRow___init__[2]? = some (.str fl_InvalidRow___init__ tf_InvalidRow___init__))
    (ce_InvalidRow___init__ : ((l.prog.main.file : Str) == fl_InvalidRow___init__) = true)
    (tp_InvalidRow___init__ : (l.prog.main.scope.names.lookup ("super" : Str)).isSome = false)
    (su_InvalidRow___init__ : PySem.W.mroIn K C_InvalidRow (.ref C_InvalidRow) = some true)
    (op_InvalidRow___init__ : PySem.W.nsIn K cStatics "thirdparty.any" = some none)
    (me_InvalidRow___init__ : PySem.W.ks_superIn K C_InvalidRow C_InvalidRow "__init__" = some (some (.builtin "ValueError.__init__")))
    (h_InvalidRow___init__ : PySem.W.findIn K (.ref C_InvalidRow) "__init__" = some (some (.ref a_InvalidRow___init__)))
    (ei_InvalidRow : PySem.W.excInitIn K C_InvalidRow [.type "ValueError", .type "Exception", .type "BaseException", .type "object"] "ValueError.__new__" = true)
    (eo_InvalidRow : PySem.W.excOver K C_InvalidRow [.type "ValueError", .type "Exception", .type "BaseException", .type "object"] = true)
    (ed_InvalidRow : PySem.W.hasDictIn K C_InvalidRow = true)
    (esa_InvalidRow : PySem.W.findIn K (.ref C_InvalidRow) "__setattr__" = some (some (.builtin "object.__setattr__")))
    (eb_InvalidRow : PySem.W.subIn K (.ref C_InvalidRow) (.type "BaseException") = some true)
    (es_InvalidRow : PySem.W.subIn K (.ref C_InvalidRow) (.type "ValueError") = some true)
    (et_InvalidRow : PySem.W.typeIn K (.ref C_InvalidRow) = some (.type "type"))
    (kc_InvalidRow : PySem.W.keepIn K (.ref C_InvalidRow) = true)
    (tk_InvalidRow_value : PySem.W.takerIn K C_InvalidRow "value" = some none)
    (h_InvalidRule___init__ : PySem.W.findIn K (.ref C_InvalidRule) "__init__" = some (some (.ref a_InvalidRule___init__)))
    (l_InvalidRule___init__ : K.lookup a_InvalidRule___init__ = some ⟨oc_InvalidRule___init__, od_InvalidRule___init__, .func (PySem.W.fnX "__init__" "InvalidRule.__init__" (defArgs s_InvalidRule___init__) (defBody s_InvalidRule___init__) (defScope s_InvalidRule___init__) [(("__class__" : Str), cc_InvalidRule___init__)] .none kV_InvalidRule___init__ dc_InvalidRule___init__ pm_InvalidRule___init__ an_InvalidRule___init__ (.ref co_InvalidRule___init__) ct_InvalidRule___init__), sl_InvalidRule___init__⟩)
    (lc_InvalidRule___init__ : K.lookup cc_InvalidRule___init__ = some ⟨ccl_InvalidRule___init__, ccd_InvalidRule___init__, .cell (some (.ref C_InvalidRule)), ccs_InvalidRule___init__⟩)
    (c_InvalidRule___init__ : PySem.W.codeIn K (.ref co_InvalidRule___init__) "InvalidRule.__init__" = true)
    (k_InvalidRule___init__ : PySem.W.keepIn K (.ref a_InvalidRule___init__) = true)
    (if_InvalidRule___init__ : PySem.W.isFn K (.ref a_InvalidRule___init__) = true)
    (ca_InvalidRule___init__ : K.lookup co_InvalidRule___init__ = some ⟨coc_InvalidRule___init__, cod_InvalidRule___init__, .fields vs_InvalidRule___init__, cos_InvalidRule___init__⟩)
    (cb_InvalidRule___init__ : vs_InvalidRule___init__[2]? = some (.str fl_InvalidRule___init__ tf_InvalidRule___init__))
    (ce_InvalidRule___init__ : ((l.prog.main.file : Str) == fl_InvalidRule___init__) = true)
    (tp_InvalidRule___init__ : (l.prog.main.scope.names.lookup ("super" : Str)).isSome = false)
    (su_InvalidRule___init__ : PySem.W.mroIn K C_InvalidRule (.ref C_InvalidRule) = some true)
    (op_InvalidRule___init__ : PySem.W.nsIn K cStatics "thirdparty.any" = some none)
    (me_InvalidRule___init__ : PySem.W.ks_superIn K C_InvalidRule C_InvalidRule "__init__" = some (some (.builtin "ValueError.__init__")))
    (h_InvalidRule___init__ : PySem.W.findIn K (.ref C_InvalidRule) "__init__" = some (some (.ref a_InvalidRule___init__)))
    (ei_InvalidRule : PySem.W.excInitIn K C_InvalidRule [.type "ValueError", .type "Exception", .type "BaseException", .type "object"] "ValueError.__new__" = true)
    (eo_InvalidRule : PySem.W.excOver K C_InvalidRule [.type "ValueError", .type "Exception", .type "BaseException", .type "object"] = true)
    (ed_InvalidRule : PySem.W.hasDictIn K C_InvalidRule = true)
    (esa_InvalidRule : PySem.W.findIn K (.ref C_InvalidRule) "__setattr__" = some (some (.builtin "object.__setattr__")))
    (eb_InvalidRule : PySem.W.subIn K (.ref C_InvalidRule) (.type "BaseException") = some true)
    (es_InvalidRule : PySem.W.subIn K (.ref C_InvalidRule) (.type "ValueError") = some true)
    (et_InvalidRule : PySem.W.typeIn K (.ref C_InvalidRule) = some (.type "type"))
    (kc_InvalidRule : PySem.W.keepIn K (.ref C_InvalidRule) = true)
    (tk_InvalidRule_argument : PySem.W.takerIn K C_InvalidRule "argument" = some none)
    (h_Misfit___init__ : PySem.W.findIn K (.ref C_Misfit) "__init__" = some (some (.ref a_Misfit___init__)))
    (l_Misfit___init__ : K.lookup a_Misfit___init__ = some ⟨oc_Misfit___init__, od_Misfit___init__, .func (PySem.W.fnX "__init__" "Misfit.__init__" (defArgs s_Misfit___init__) (defBody s_Misfit___init__) (defScope s_Misfit___init__) [(("__class__" : Str), cc_Misfit___init__)] .none kV_Misfit___init__ dc_Misfit___init__ pm_Misfit___init__ an_Misfit___init__ (.ref co_Misfit___init__) ct_Misfit___init__), sl_Misfit___init__⟩)
    (lc_Misfit___init__ : K.lookup cc_Misfit___init__ = some ⟨ccl_Misfit___init__, ccd_Misfit___init__, .cell (some (.ref C_Misfit)), ccs_Misfit___init__⟩)
    (c_Misfit___init__ : PySem.W.codeIn K (.ref co_Misfit___init__) "Misfit.__init__" = true)
    (k_Misfit___init__ : PySem.W.keepIn K (.ref a_Misfit___init__) = true)
    (if_Misfit___init__ : PySem.W.isFn K (.ref a_Misfit___init__) = true)
    (ca_Misfit___init__ : K.lookup co_Misfit___init__ = some ⟨coc_Misfit___init__, cod_Misfit___init__, .fields vs_Misfit___init__, cos_Misfit___init__⟩)
    (cb_Misfit___init__ : vs_Misfit___init__[2]? = some (.str fl_Misfit___init__ tf_Misfit___init__))
    (ce_Misfit___init__ : ((l.prog.main.file : Str) == fl_Misfit___init__) = true)
    (tp_Misfit___init__ : (l.prog.main.scope.names.lookup ("super" : Str)).isSome = false)
    (su_Misfit___init__ : PySem.W.mroIn K C_Misfit (.ref C_Misfit) = some true)
    (op_Misfit___init__ : PySem.W.nsIn K cStatics "thirdparty.any" = some none)
    (me_Misfit___init__ : PySem.W.ks_superIn K C_Misfit C_Misfit "__init__" = some (some (.builtin "ValueError.__init__")))
    (h_Misfit___init__ : PySem.W.findIn K (.ref C_Misfit) "__init__" = some (some (.ref a_Misfit___init__)))
    (ei_Misfit : PySem.W.excInitIn K C_Misfit [.type "ValueError", .type "Exception", .type "BaseException", .type "object"] "ValueError.__new__" = true)
    (eo_Misfit : PySem.W.excOver K C_Misfit [.type "ValueError", .type "Exception", .type "BaseException", .type "object"] = true)
    (ed_Misfit : PySem.W.hasDictIn K C_Misfit = true)
    (esa_Misfit : PySem.W.findIn K (.ref C_Misfit) "__setattr__" = some (some (.builtin "object.__setattr__")))
    (eb_Misfit : PySem.W.subIn K (.ref C_Misfit) (.type "BaseException") = some true)
    (es_Misfit : PySem.W.subIn K (.ref C_Misfit) (.type "ValueError") = some true)
    (et_Misfit : PySem.W.typeIn K (.ref C_Misfit) = some (.type "type"))
    (kc_Misfit : PySem.W.keepIn K (.ref C_Misfit) = true)
    (tk_Misfit_index : PySem.W.takerIn K C_Misfit "index" = some none)
    (h_Circle___init__ : PySem.W.findIn K (.ref C_Circle) "__init__" = some (some (.ref a_Circle___init__)))
    (l_Circle___init__ : K.lookup a_Circle___init__ = some ⟨oc_Circle___init__, od_Circle___init__, .func (PySem.W.fnX "__init__" "Circle.__init__" (defArgs s_Circle___init__) (defBody s_Circle___init__) (defScope s_Circle___init__) [(("__class__" : Str), cc_Circle___init__)] .none kV_Circle___init__ dc_Circle___init__ pm_Circle___init__ an_Circle___init__ (.ref co_Circle___init__) ct_Circle___init__), sl_Circle___init__⟩)
    (lc_Circle___init__ : K.lookup cc_Circle___init__ = some ⟨ccl_Circle___init__, ccd_Circle___init__, .cell (some (.ref C_Circle)), ccs_Circle___init__⟩)
    (c_Circle___init__ : PySem.W.codeIn K (.ref co_Circle___init__) "Circle.__init__" = true)
    (k_Circle___init__ : PySem.W.keepIn K (.ref a_Circle___init__) = true)
    (if_Circle___init__ : PySem.W.isFn K (.ref a_Circle___init__) = true)
    (ca_Circle___init__ : K.lookup co_Circle___init__ = some ⟨coc_Circle___init__, cod_Circle___init__, .fields vs_Circle___init__, cos_Circle___init__⟩)
    (cb_Circle___init__ : vs_Circle___init__[2]? = some (.str fl_Circle___init__ tf_Circle___init__))
    (ce_Circle___init__ : ((l.prog.main.file : Str) == fl_Circle___init__) = true)
    (tp_Circle___init__ : (l.prog.main.scope.names.lookup ("super" : Str)).isSome = false)
    (su_Circle___init__ : PySem.W.mroIn K C_Circle (.ref C_Circle) = some true)
    (op_Circle___init__ : PySem.W.nsIn K cStatics "thirdparty.any" = some none)
    (me_Circle___init__ : PySem.W.ks_superIn K C_Circle C_Circle "__init__" = some (some (.builtin "ValueError.__init__")))
    (h_Circle___init__ : PySem.W.findIn K (.ref C_Circle) "__init__" = some (some (.ref a_Circle___init__)))
    (ei_Circle : PySem.W.excInitIn K C_Circle [.type "ValueError", .type "Exception", .type "BaseException", .type "object"] "ValueError.__new__" = true)
    (eo_Circle : PySem.W.excOver K C_Circle [.type "ValueError", .type "Exception", .type "BaseException", .type "object"] = true)
    (ed_Circle : PySem.W.hasDictIn K C_Circle = true)
    (esa_Circle : PySem.W.findIn K (.ref C_Circle) "__setattr__" = some (some (.builtin "object.__setattr__")))
    (eb_Circle : PySem.W.subIn K (.ref C_Circle) (.type "BaseException") = some true)
    (es_Circle : PySem.W.subIn K (.ref C_Circle) (.type "ValueError") = some true)
    (et_Circle : PySem.W.typeIn K (.ref C_Circle) = some (.type "type"))
    (kc_Circle : PySem.W.keepIn K (.ref C_Circle) = true)
    (tk_Circle_value : PySem.W.takerIn K C_Circle "value" = some none)
    (h_InvalidFact___init__ : PySem.W.findIn K (.ref C_InvalidFact) "__init__" = some (some (.ref a_InvalidFact___init__)))
    (l_InvalidFact___init__ : K.lookup a_InvalidFact___init__ = some ⟨oc_InvalidFact___init__, od_InvalidFact___init__, .func (PySem.W.fnX "__init__" "InvalidFact.__init__" (defArgs s_InvalidFact___init__) (defBody s_InvalidFact___init__) (defScope s_InvalidFact___init__) [(("__class__" : Str), cc_InvalidFact___init__)] .none kV_InvalidFact___init__ dc_InvalidFact___init__ pm_InvalidFact___init__ an_InvalidFact___init__ (.ref co_InvalidFact___init__) ct_InvalidFact___init__), sl_InvalidFact___init__⟩)
    (lc_InvalidFact___init__ : K.lookup cc_InvalidFact___init__ = some ⟨ccl_InvalidFact___init__, ccd_InvalidFact___init__, .cell (some (.ref C_InvalidFact)), ccs_InvalidFact___init__⟩)
    (c_InvalidFact___init__ : PySem.W.codeIn K (.ref co_InvalidFact___init__) "InvalidFact.__init__" = true)
    (k_InvalidFact___init__ : PySem.W.keepIn K (.ref a_InvalidFact___init__) = true)
    (if_InvalidFact___init__ : PySem.W.isFn K (.ref a_InvalidFact___init__) = true)
    (ca_InvalidFact___init__ : K.lookup co_InvalidFact___init__ = some ⟨coc_InvalidFact___init__, cod_InvalidFact___init__, .fields vs_InvalidFact___init__, cos_InvalidFact___init__⟩)
    (cb_InvalidFact___init__ : vs_InvalidFact___init__[2]? = some (.str fl_InvalidFact___init__ tf_InvalidFact___init__))
    (ce_InvalidFact___init__ : ((l.prog.main.file : Str) == fl_InvalidFact___init__) = true)
    (tp_InvalidFact___init__ : (l.prog.main.scope.names.lookup ("super" : Str)).isSome = false)
    (su_InvalidFact___init__ : PySem.W.mroIn K C_InvalidFact (.ref C_InvalidFact) = some true)
    (op_InvalidFact___init__ : PySem.W.nsIn K cStatics "thirdparty.any" = some none)
    (me_InvalidFact___init__ : PySem.W.ks_superIn K C_InvalidFact C_InvalidFact "__init__" = some (some (.builtin "ValueError.__init__")))
    (h_InvalidFact___init__ : PySem.W.findIn K (.ref C_InvalidFact) "__init__" = some (some (.ref a_InvalidFact___init__)))
    (ei_InvalidFact : PySem.W.excInitIn K C_InvalidFact [.type "ValueError", .type "Exception", .type "BaseException", .type "object"] "ValueError.__new__" = true)
    (eo_InvalidFact : PySem.W.excOver K C_InvalidFact [.type "ValueError", .type "Exception", .type "BaseException", .type "object"] = true)
    (ed_InvalidFact : PySem.W.hasDictIn K C_InvalidFact = true)
    (esa_InvalidFact : PySem.W.findIn K (.ref C_InvalidFact) "__setattr__" = some (some (.builtin "object.__setattr__")))
    (eb_InvalidFact : PySem.W.subIn K (.ref C_InvalidFact) (.type "BaseException") = some true)
    (es_InvalidFact : PySem.W.subIn K (.ref C_InvalidFact) (.type "ValueError") = some true)
    (et_InvalidFact : PySem.W.typeIn K (.ref C_InvalidFact) = some (.type "type"))
    (kc_InvalidFact : PySem.W.keepIn K (.ref C_InvalidFact) = true)
    (tk_InvalidFact_index : PySem.W.takerIn K C_InvalidFact "index" = some none)
    (h_InvalidChange___init__ : PySem.W.findIn K (.ref C_InvalidChange) "__init__" = some (some (.ref a_InvalidChange___init__)))
    (l_InvalidChange___init__ : K.lookup a_InvalidChange___init__ = some ⟨oc_InvalidChange___init__, od_InvalidChange___init__, .func (PySem.W.fnX "__init__" "InvalidChange.__init__" (defArgs s_InvalidChange___init__) (defBody s_InvalidChange___init__) (defScope s_InvalidChange___init__) [(("__class__" : Str), cc_InvalidChange___init__)] .none kV_InvalidChange___init__ dc_InvalidChange___init__ pm_InvalidChange___init__ an_InvalidChange___init__ (.ref co_InvalidChange___init__) ct_InvalidChange___init__), sl_InvalidChange___init__⟩)
    (lc_InvalidChange___init__ : K.lookup cc_InvalidChange___init__ = some ⟨ccl_InvalidChange___init__, ccd_InvalidChange___init__, .cell (some (.ref C_InvalidChange)), ccs_InvalidChange___init__⟩)
    (c_InvalidChange___init__ : PySem.W.codeIn K (.ref co_InvalidChange___init__) "InvalidChange.__init__" = true)
    (k_InvalidChange___init__ : PySem.W.keepIn K (.ref a_InvalidChange___init__) = true)
    (if_InvalidChange___init__ : PySem.W.isFn K (.ref a_InvalidChange___init__) = true)
    (ca_InvalidChange___init__ : K.lookup co_InvalidChange___init__ = some ⟨coc_InvalidChange___init__, cod_InvalidChange___init__, .fields vs_InvalidChange___init__, cos_InvalidChange___init__⟩)
    (cb_InvalidChange___init__ : vs_InvalidChange___init__[2]? = some (.str fl_InvalidChange___init__ tf_InvalidChange___init__))
    (ce_InvalidChange___init__ : ((l.prog.main.file : Str) == fl_InvalidChange___init__) = true)
    (tp_InvalidChange___init__ : (l.prog.main.scope.names.lookup ("super" : Str)).isSome = false)
    (su_InvalidChange___init__ : PySem.W.mroIn K C_InvalidChange (.ref C_InvalidChange) = some true)
    (op_InvalidChange___init__ : PySem.W.nsIn K cStatics "thirdparty.any" = some none)
    (me_InvalidChange___init__ : PySem.W.ks_superIn K C_InvalidChange C_InvalidChange "__init__" = some (some (.builtin "ValueError.__init__")))
    (h_InvalidChange___init__ : PySem.W.findIn K (.ref C_InvalidChange) "__init__" = some (some (.ref a_InvalidChange___init__)))
    (ei_InvalidChange : PySem.W.excInitIn K C_InvalidChange [.type "ValueError", .type "Exception", .type "BaseException", .type "object"] "ValueError.__new__" = true)
    (eo_InvalidChange : PySem.W.excOver K C_InvalidChange [.type "ValueError", .type "Exception", .type "BaseException", .type "object"] = true)
    (ed_InvalidChange : PySem.W.hasDictIn K C_InvalidChange = true)
    (esa_InvalidChange : PySem.W.findIn K (.ref C_InvalidChange) "__setattr__" = some (some (.builtin "object.__setattr__")))
    (eb_InvalidChange : PySem.W.subIn K (.ref C_InvalidChange) (.type "BaseException") = some true)
    (es_InvalidChange : PySem.W.subIn K (.ref C_InvalidChange) (.type "ValueError") = some true)
    (et_InvalidChange : PySem.W.typeIn K (.ref C_InvalidChange) = some (.type "type"))
    (kc_InvalidChange : PySem.W.keepIn K (.ref C_InvalidChange) = true)
    (tk_InvalidChange_index : PySem.W.takerIn K C_InvalidChange "index" = some none)
    (h_InvalidAnswer___init__ : PySem.W.findIn K (.ref C_InvalidAnswer) "__init__" = some (some (.ref a_InvalidAnswer___init__)))
    (l_InvalidAnswer___init__ : K.lookup a_InvalidAnswer___init__ = some ⟨oc_InvalidAnswer___init__, od_InvalidAnswer___init__, .func (PySem.W.fnX "__init__" "InvalidAnswer.__init__" (defArgs s_InvalidAnswer___init__) (defBody s_InvalidAnswer___init__) (defScope s_InvalidAnswer___init__) [(("__class__" : Str), cc_InvalidAnswer___init__)] .none kV_InvalidAnswer___init__ dc_InvalidAnswer___init__ pm_InvalidAnswer___init__ an_InvalidAnswer___init__ (.ref co_InvalidAnswer___init__) ct_InvalidAnswer___init__), sl_InvalidAnswer___init__⟩)
    (lc_InvalidAnswer___init__ : K.lookup cc_InvalidAnswer___init__ = some ⟨ccl_InvalidAnswer___init__, ccd_InvalidAnswer___init__, .cell (some (.ref C_InvalidAnswer)), ccs_InvalidAnswer___init__⟩)
    (c_InvalidAnswer___init__ : PySem.W.codeIn K (.ref co_InvalidAnswer___init__) "InvalidAnswer.__init__" = true)
    (k_InvalidAnswer___init__ : PySem.W.keepIn K (.ref a_InvalidAnswer___init__) = true)
    (if_InvalidAnswer___init__ : PySem.W.isFn K (.ref a_InvalidAnswer___init__) = true)
    (ca_InvalidAnswer___init__ : K.lookup co_InvalidAnswer___init__ = some ⟨coc_InvalidAnswer___init__, cod_InvalidAnswer___init__, .fields vs_InvalidAnswer___init__, cos_InvalidAnswer___init__⟩)
    (cb_InvalidAnswer___init__ : vs_InvalidAnswer___init__[2]? = some (.str fl_InvalidAnswer___init__ tf_InvalidAnswer___init__))
    (ce_InvalidAnswer___init__ : ((l.prog.main.file : Str) == fl_InvalidAnswer___init__) = true)
    (tp_InvalidAnswer___init__ : (l.prog.main.scope.names.lookup ("super" : Str)).isSome = false)
    (su_InvalidAnswer___init__ : PySem.W.mroIn K C_InvalidAnswer (.ref C_InvalidAnswer) = some true)
    (op_InvalidAnswer___init__ : PySem.W.nsIn K cStatics "thirdparty.any" = some none)
    (me_InvalidAnswer___init__ : PySem.W.ks_superIn K C_InvalidAnswer C_InvalidAnswer "__init__" = some (some (.builtin "ValueError.__init__")))
    (h_InvalidAnswer___init__ : PySem.W.findIn K (.ref C_InvalidAnswer) "__init__" = some (some (.ref a_InvalidAnswer___init__)))
    (ei_InvalidAnswer : PySem.W.excInitIn K C_InvalidAnswer [.type "ValueError", .type "Exception", .type "BaseException", .type "object"] "ValueError.__new__" = true)
    (eo_InvalidAnswer : PySem.W.excOver K C_InvalidAnswer [.type "ValueError", .type "Exception", .type "BaseException", .type "object"] = true)
    (ed_InvalidAnswer : PySem.W.hasDictIn K C_InvalidAnswer = true)
    (esa_InvalidAnswer : PySem.W.findIn K (.ref C_InvalidAnswer) "__setattr__" = some (some (.builtin "object.__setattr__")))
    (eb_InvalidAnswer : PySem.W.subIn K (.ref C_InvalidAnswer) (.type "BaseException") = some true)
    (es_InvalidAnswer : PySem.W.subIn K (.ref C_InvalidAnswer) (.type "ValueError") = some true)
    (et_InvalidAnswer : PySem.W.typeIn K (.ref C_InvalidAnswer) = some (.type "type"))
    (kc_InvalidAnswer : PySem.W.keepIn K (.ref C_InvalidAnswer) = true)
    (tk_InvalidAnswer_value : PySem.W.takerIn K C_InvalidAnswer "value" = some none)
    (h_InvalidTemplate___init__ : PySem.W.findIn K (.ref C_InvalidTemplate) "__init__" = some (some (.ref a_InvalidTemplate___init__)))
    (l_InvalidTemplate___init__ : K.lookup a_InvalidTemplate___init__ = some ⟨oc_InvalidTemplate___init__, od_InvalidTemplate___init__, .func (PySem.W.fnX "__init__" "InvalidTemplate.__init__" (defArgs s_InvalidTemplate___init__) (defBody s_InvalidTemplate___init__) (defScope s_InvalidTemplate___init__) [(("__class__" : Str), cc_InvalidTemplate___init__)] .none kV_InvalidTemplate___init__ dc_InvalidTemplate___init__ pm_InvalidTemplate___init__ an_InvalidTemplate___init__ (.ref co_InvalidTemplate___init__) ct_InvalidTemplate___init__), sl_InvalidTemplate___init__⟩)
    (lc_InvalidTemplate___init__ : K.lookup cc_InvalidTemplate___init__ = some ⟨ccl_InvalidTemplate___init__, ccd_InvalidTemplate___init__, .cell (some (.ref C_InvalidTemplate)), ccs_InvalidTemplate___init__⟩)
    (c_InvalidTemplate___init__ : PySem.W.codeIn K (.ref co_InvalidTemplate___init__) "InvalidTemplate.__init__" = true)
    (k_InvalidTemplate___init__ : PySem.W.keepIn K (.ref a_InvalidTemplate___init__) = true)
    (if_InvalidTemplate___init__ : PySem.W.isFn K (.ref a_InvalidTemplate___init__) = true)
    (ca_InvalidTemplate___init__ : K.lookup co_InvalidTemplate___init__ = some ⟨coc_InvalidTemplate___init__, cod_InvalidTemplate___init__, .fields vs_InvalidTemplate___init__, cos_InvalidTemplate___init__⟩)
    (cb_InvalidTemplate___init__ : vs_InvalidTemplate___init__[2]? = some (.str fl_InvalidTemplate___init__ tf_InvalidTemplate___init__))
    (ce_InvalidTemplate___init__ : ((l.prog.main.file : Str) == fl_InvalidTemplate___init__) = true)
    (tp_InvalidTemplate___init__ : (l.prog.main.scope.names.lookup ("super" : Str)).isSome = false)
    (su_InvalidTemplate___init__ : PySem.W.mroIn K C_InvalidTemplate (.ref C_InvalidTemplate) = some true)
    (op_InvalidTemplate___init__ : PySem.W.nsIn K cStatics "thirdparty.any" = some none)
    (me_InvalidTemplate___init__ : PySem.W.ks_superIn K C_InvalidTemplate C_InvalidTemplate "__init__" = some (some (.builtin "ValueError.__init__")))
    (h_InvalidTemplate___init__ : PySem.W.findIn K (.ref C_InvalidTemplate) "__init__" = some (some (.ref a_InvalidTemplate___init__)))
    (ei_InvalidTemplate : PySem.W.excInitIn K C_InvalidTemplate [.type "ValueError", .type "Exception", .type "BaseException", .type "object"] "ValueError.__new__" = true)
    (eo_InvalidTemplate : PySem.W.excOver K C_InvalidTemplate [.type "ValueError", .type "Exception", .type "BaseException", .type "object"] = true)
    (ed_InvalidTemplate : PySem.W.hasDictIn K C_InvalidTemplate = true)
    (esa_InvalidTemplate : PySem.W.findIn K (.ref C_InvalidTemplate) "__setattr__" = some (some (.builtin "object.__setattr__")))
    (eb_InvalidTemplate : PySem.W.subIn K (.ref C_InvalidTemplate) (.type "BaseException") = some true)
    (es_InvalidTemplate : PySem.W.subIn K (.ref C_InvalidTemplate) (.type "ValueError") = some true)
    (et_InvalidTemplate : PySem.W.typeIn K (.ref C_InvalidTemplate) = some (.type "type"))
    (kc_InvalidTemplate : PySem.W.keepIn K (.ref C_InvalidTemplate) = true)
    (tk_InvalidTemplate_index : PySem.W.takerIn K C_InvalidTemplate "index" = some none)
    (h_InvalidNames___init__ : PySem.W.findIn K (.ref C_InvalidNames) "__init__" = some (some (.ref a_InvalidNames___init__)))
    (l_InvalidNames___init__ : K.lookup a_InvalidNames___init__ = some ⟨oc_InvalidNames___init__, od_InvalidNames___init__, .func (PySem.W.fnX "__init__" "InvalidNames.__init__" (defArgs s_InvalidNames___init__) (defBody s_InvalidNames___init__) (defScope s_InvalidNames___init__) [(("__class__" : Str), cc_InvalidNames___init__)] .none kV_InvalidNames___init__ dc_InvalidNames___init__ pm_InvalidNames___init__ an_InvalidNames___init__ (.ref co_InvalidNames___init__) ct_InvalidNames___init__), sl_InvalidNames___init__⟩)
    (lc_InvalidNames___init__ : K.lookup cc_InvalidNames___init__ = some ⟨ccl_InvalidNames___init__, ccd_InvalidNames___init__, .cell (some (.ref C_InvalidNames)), ccs_InvalidNames___init__⟩)
    (c_InvalidNames___init__ : PySem.W.codeIn K (.ref co_InvalidNames___init__) "InvalidNames.__init__" = true)
    (k_InvalidNames___init__ : PySem.W.keepIn K (.ref a_InvalidNames___init__) = true)
    (if_InvalidNames___init__ : PySem.W.isFn K (.ref a_InvalidNames___init__) = true)
    (ca_InvalidNames___init__ : K.lookup co_InvalidNames___init__ = some ⟨coc_InvalidNames___init__, cod_InvalidNames___init__, .fields vs_InvalidNames___init__, cos_InvalidNames___init__⟩)
    (cb_InvalidNames___init__ : vs_InvalidNames___init__[2]? = some (.str fl_InvalidNames___init__ tf_InvalidNames___init__))
    (ce_InvalidNames___init__ : ((l.prog.main.file : Str) == fl_InvalidNames___init__) = true)
    (tp_InvalidNames___init__ : (l.prog.main.scope.names.lookup ("super" : Str)).isSome = false)
    (su_InvalidNames___init__ : PySem.W.mroIn K C_InvalidNames (.ref C_InvalidNames) = some true)
    (op_InvalidNames___init__ : PySem.W.nsIn K cStatics "thirdparty.any" = some none)
    (me_InvalidNames___init__ : PySem.W.ks_superIn K C_InvalidNames C_InvalidNames "__init__" = some (some (.builtin "ValueError.__init__")))
    (h_InvalidNames___init__ : PySem.W.findIn K (.ref C_InvalidNames) "__init__" = some (some (.ref a_InvalidNames___init__)))
    (ei_InvalidNames : PySem.W.excInitIn K C_InvalidNames [.type "ValueError", .type "Exception", .type "BaseException", .type "object"] "ValueError.__new__" = true)
    (eo_InvalidNames : PySem.W.excOver K C_InvalidNames [.type "ValueError", .type "Exception", .type "BaseException", .type "object"] = true)
    (ed_InvalidNames : PySem.W.hasDictIn K C_InvalidNames = true)
    (esa_InvalidNames : PySem.W.findIn K (.ref C_InvalidNames) "__setattr__" = some (some (.builtin "object.__setattr__")))
    (eb_InvalidNames : PySem.W.subIn K (.ref C_InvalidNames) (.type "BaseException") = some true)
    (es_InvalidNames : PySem.W.subIn K (.ref C_InvalidNames) (.type "ValueError") = some true)
    (et_InvalidNames : PySem.W.typeIn K (.ref C_InvalidNames) = some (.type "type"))
    (kc_InvalidNames : PySem.W.keepIn K (.ref C_InvalidNames) = true)
    (tk_InvalidNames_value : PySem.W.takerIn K C_InvalidNames "value" = some none)
    (h_InvalidLimit___init__ : PySem.W.findIn K (.ref C_InvalidLimit) "__init__" = some (some (.ref a_InvalidLimit___init__)))
    (l_InvalidLimit___init__ : K.lookup a_InvalidLimit___init__ = some ⟨oc_InvalidLimit___init__, od_InvalidLimit___init__, .func (PySem.W.fnX "__init__" "InvalidLimit.__init__" (defArgs s_InvalidLimit___init__) (defBody s_InvalidLimit___init__) (defScope s_InvalidLimit___init__) [(("__class__" : Str), cc_InvalidLimit___init__)] .none kV_InvalidLimit___init__ dc_InvalidLimit___init__ pm_InvalidLimit___init__ an_InvalidLimit___init__ (.ref co_InvalidLimit___init__) ct_InvalidLimit___init__), sl_InvalidLimit___init__⟩)
    (lc_InvalidLimit___init__ : K.lookup cc_InvalidLimit___init__ = some ⟨ccl_InvalidLimit___init__, ccd_InvalidLimit___init__, .cell (some (.ref C_InvalidLimit)), ccs_InvalidLimit___init__⟩)
    (c_InvalidLimit___init__ : PySem.W.codeIn K (.ref co_InvalidLimit___init__) "InvalidLimit.__init__" = true)
    (k_InvalidLimit___init__ : PySem.W.keepIn K (.ref a_InvalidLimit___init__) = true)
    (if_InvalidLimit___init__ : PySem.W.isFn K (.ref a_InvalidLimit___init__) = true)
    (ca_InvalidLimit___init__ : K.lookup co_InvalidLimit___init__ = some ⟨coc_InvalidLimit___init__, cod_InvalidLimit___init__, .fields vs_InvalidLimit___init__, cos_InvalidLimit___init__⟩)
    (cb_InvalidLimit___init__ : vs_InvalidLimit___init__[2]? = some (.str fl_InvalidLimit___init__ tf_InvalidLimit___init__))
    (ce_InvalidLimit___init__ : ((l.prog.main.file : Str) == fl_InvalidLimit___init__) = true)
    (tp_InvalidLimit___init__ : (l.prog.main.scope.names.lookup ("super" : Str)).isSome = false)
    (su_InvalidLimit___init__ : PySem.W.mroIn K C_InvalidLimit (.ref C_InvalidLimit) = some true)
    (op_InvalidLimit___init__ : PySem.W.nsIn K cStatics "thirdparty.any" = some none)
    (me_InvalidLimit___init__ : PySem.W.ks_superIn K C_InvalidLimit C_InvalidLimit "__init__" = some (some (.builtin "ValueError.__init__")))
    (h_InvalidLimit___init__ : PySem.W.findIn K (.ref C_InvalidLimit) "__init__" = some (some (.ref a_InvalidLimit___init__)))
    (ei_InvalidLimit : PySem.W.excInitIn K C_InvalidLimit [.type "ValueError", .type "Exception", .type "BaseException", .type "object"] "ValueError.__new__" = true)
    (eo_InvalidLimit : PySem.W.excOver K C_InvalidLimit [.type "ValueError", .type "Exception", .type "BaseException", .type "object"] = true)
    (ed_InvalidLimit : PySem.W.hasDictIn K C_InvalidLimit = true)
    (esa_InvalidLimit : PySem.W.findIn K (.ref C_InvalidLimit) "__setattr__" = some (some (.builtin "object.__setattr__")))
    (eb_InvalidLimit : PySem.W.subIn K (.ref C_InvalidLimit) (.type "BaseException") = some true)
    (es_InvalidLimit : PySem.W.subIn K (.ref C_InvalidLimit) (.type "ValueError") = some true)
    (et_InvalidLimit : PySem.W.typeIn K (.ref C_InvalidLimit) = some (.type "type"))
    (kc_InvalidLimit : PySem.W.keepIn K (.ref C_InvalidLimit) = true)
    (tk_InvalidLimit_value : PySem.W.takerIn K C_InvalidLimit "value" = some none)
    (h_Unreadable___init__ : PySem.W.findIn K (.ref C_Unreadable) "__init__" = some (some (.ref a_Unreadable___init__)))
    (l_Unreadable___init__ : K.lookup a_Unreadable___init__ = some ⟨oc_Unreadable___init__, od_Unreadable___init__, .func (PySem.W.fnX "__init__" "Unreadable.__init__" (defArgs s_Unreadable___init__) (defBody s_Unreadable___init__) (defScope s_Unreadable___init__) [(("__class__" : Str), cc_Unreadable___init__)] .none kV_Unreadable___init__ dc_Unreadable___init__ pm_Unreadable___init__ an_Unreadable___init__ (.ref co_Unreadable___init__) ct_Unreadable___init__), sl_Unreadable___init__⟩)
    (lc_Unreadable___init__ : K.lookup cc_Unreadable___init__ = some ⟨ccl_Unreadable___init__, ccd_Unreadable___init__, .cell (some (.ref C_Unreadable)), ccs_Unreadable___init__⟩)
    (c_Unreadable___init__ : PySem.W.codeIn K (.ref co_Unreadable___init__) "Unreadable.__init__" = true)
    (k_Unreadable___init__ : PySem.W.keepIn K (.ref a_Unreadable___init__) = true)
    (if_Unreadable___init__ : PySem.W.isFn K (.ref a_Unreadable___init__) = true)
    (ca_Unreadable___init__ : K.lookup co_Unreadable___init__ = some ⟨coc_Unreadable___init__, cod_Unreadable___init__, .fields vs_Unreadable___init__, cos_Unreadable___init__⟩)
    (cb_Unreadable___init__ : vs_Unreadable___init__[2]? = some (.str fl_Unreadable___init__ tf_Unreadable___init__))
    (ce_Unreadable___init__ : ((l.prog.main.file : Str) == fl_Unreadable___init__) = true)
    (tp_Unreadable___init__ : (l.prog.main.scope.names.lookup ("super" : Str)).isSome = false)
    (su_Unreadable___init__ : PySem.W.mroIn K C_Unreadable (.ref C_Unreadable) = some true)
    (op_Unreadable___init__ : PySem.W.nsIn K cStatics "thirdparty.any" = some none)
    (me_Unreadable___init__ : PySem.W.ks_superIn K C_Unreadable C_Unreadable "__init__" = some (some (.builtin "ValueError.__init__")))
    (h_Unreadable___init__ : PySem.W.findIn K (.ref C_Unreadable) "__init__" = some (some (.ref a_Unreadable___init__)))
    (ei_Unreadable : PySem.W.excInitIn K C_Unreadable [.type "ValueError", .type "Exception", .type "BaseException", .type "object"] "ValueError.__new__" = true)
    (eo_Unreadable : PySem.W.excOver K C_Unreadable [.type "ValueError", .type "Exception", .type "BaseException", .type "object"] = true)
    (ed_Unreadable : PySem.W.hasDictIn K C_Unreadable = true)
    (esa_Unreadable : PySem.W.findIn K (.ref C_Unreadable) "__setattr__" = some (some (.builtin "object.__setattr__")))
    (eb_Unreadable : PySem.W.subIn K (.ref C_Unreadable) (.type "BaseException") = some true)
    (es_Unreadable : PySem.W.subIn K (.ref C_Unreadable) (.type "ValueError") = some true)
    (et_Unreadable : PySem.W.typeIn K (.ref C_Unreadable) = some (.type "type"))
    (kc_Unreadable : PySem.W.keepIn K (.ref C_Unreadable) = true)
    (tk_Unreadable_index : PySem.W.takerIn K C_Unreadable "index" = some none)
    (h_UnknownTable___init__ : PySem.W.findIn K (.ref C_UnknownTable) "__init__" = some (some (.ref a_UnknownTable___init__)))
    (l_UnknownTable___init__ : K.lookup a_UnknownTable___init__ = some ⟨oc_UnknownTable___init__, od_UnknownTable___init__, .func (PySem.W.fnX "__init__" "UnknownTable.__init__" (defArgs s_UnknownTable___init__) (defBody s_UnknownTable___init__) (defScope s_UnknownTable___init__) [(("__class__" : Str), cc_UnknownTable___init__)] .none kV_UnknownTable___init__ dc_UnknownTable___init__ pm_UnknownTable___init__ an_UnknownTable___init__ (.ref co_UnknownTable___init__) ct_UnknownTable___init__), sl_UnknownTable___init__⟩)
    (lc_UnknownTable___init__ : K.lookup cc_UnknownTable___init__ = some ⟨ccl_UnknownTable___init__, ccd_UnknownTable___init__, .cell (some (.ref C_UnknownTable)), ccs_UnknownTable___init__⟩)
    (c_UnknownTable___init__ : PySem.W.codeIn K (.ref co_UnknownTable___init__) "UnknownTable.__init__" = true)
    (k_UnknownTable___init__ : PySem.W.keepIn K (.ref a_UnknownTable___init__) = true)
    (if_UnknownTable___init__ : PySem.W.isFn K (.ref a_UnknownTable___init__) = true)
    (ca_UnknownTable___init__ : K.lookup co_UnknownTable___init__ = some ⟨coc_UnknownTable___init__, cod_UnknownTable___init__, .fields vs_UnknownTable___init__, cos_UnknownTable___init__⟩)
    (cb_UnknownTable___init__ : vs_UnknownTable___init__[2]? = some (.str fl_UnknownTable___init__ tf_UnknownTable___init__))
    (ce_UnknownTable___init__ : ((l.prog.main.file : Str) == fl_UnknownTable___init__) = true)
    (tp_UnknownTable___init__ : (l.prog.main.scope.names.lookup ("super" : Str)).isSome = false)
    (su_UnknownTable___init__ : PySem.W.mroIn K C_UnknownTable (.ref C_UnknownTable) = some true)
    (op_UnknownTable___init__ : PySem.W.nsIn K cStatics "thirdparty.any" = some none)
    (me_UnknownTable___init__ : PySem.W.ks_superIn K C_UnknownTable C_UnknownTable "__init__" = some (some (.builtin "LookupError.__init__")))
    (h_UnknownTable___init__ : PySem.W.findIn K (.ref C_UnknownTable) "__init__" = some (some (.ref a_UnknownTable___init__)))
    (ei_UnknownTable : PySem.W.excInitIn K C_UnknownTable [.type "LookupError", .type "Exception", .type "BaseException", .type "object"] "LookupError.__new__" = true)
    (eo_UnknownTable : PySem.W.excOver K C_UnknownTable [.type "LookupError", .type "Exception", .type "BaseException", .type "object"] = true)
    (ed_UnknownTable : PySem.W.hasDictIn K C_UnknownTable = true)
    (esa_UnknownTable : PySem.W.findIn K (.ref C_UnknownTable) "__setattr__" = some (some (.builtin "object.__setattr__")))
    (eb_UnknownTable : PySem.W.subIn K (.ref C_UnknownTable) (.type "BaseException") = some true)
    (es_UnknownTable : PySem.W.subIn K (.ref C_UnknownTable) (.type "LookupError") = some true)
    (et_UnknownTable : PySem.W.typeIn K (.ref C_UnknownTable) = some (.type "type"))
    (kc_UnknownTable : PySem.W.keepIn K (.ref C_UnknownTable) = true)
    (tk_UnknownTable_value : PySem.W.takerIn K C_UnknownTable "value" = some none)
    (h_UnknownColumn___init__ : PySem.W.findIn K (.ref C_UnknownColumn) "__init__" = some (some (.ref a_UnknownColumn___init__)))
    (l_UnknownColumn___init__ : K.lookup a_UnknownColumn___init__ = some ⟨oc_UnknownColumn___init__, od_UnknownColumn___init__, .func (PySem.W.fnX "__init__" "UnknownColumn.__init__" (defArgs s_UnknownColumn___init__) (defBody s_UnknownColumn___init__) (defScope s_UnknownColumn___init__) [(("__class__" : Str), cc_UnknownColumn___init__)] .none kV_UnknownColumn___init__ dc_UnknownColumn___init__ pm_UnknownColumn___init__ an_UnknownColumn___init__ (.ref co_UnknownColumn___init__) ct_UnknownColumn___init__), sl_UnknownColumn___init__⟩)
    (lc_UnknownColumn___init__ : K.lookup cc_UnknownColumn___init__ = some ⟨ccl_UnknownColumn___init__, ccd_UnknownColumn___init__, .cell (some (.ref C_UnknownColumn)), ccs_UnknownColumn___init__⟩)
    (c_UnknownColumn___init__ : PySem.W.codeIn K (.ref co_UnknownColumn___init__) "UnknownColumn.__init__" = true)
    (k_UnknownColumn___init__ : PySem.W.keepIn K (.ref a_UnknownColumn___init__) = true)
    (if_UnknownColumn___init__ : PySem.W.isFn K (.ref a_UnknownColumn___init__) = true)
    (ca_UnknownColumn___init__ : K.lookup co_UnknownColumn___init__ = some ⟨coc_UnknownColumn___init__, cod_UnknownColumn___init__, .fields vs_UnknownColumn___init__, cos_UnknownColumn___init__⟩)
    (cb_UnknownColumn___init__ : vs_UnknownColumn___init__[2]? = some (.str fl_UnknownColumn___init__ tf_UnknownColumn___init__))
    (ce_UnknownColumn___init__ : ((l.prog.main.file : Str) == fl_UnknownColumn___init__) = true)
    (tp_UnknownColumn___init__ : (l.prog.main.scope.names.lookup ("super" : Str)).isSome = false)
    (su_UnknownColumn___init__ : PySem.W.mroIn K C_UnknownColumn (.ref C_UnknownColumn) = some true)
    (op_UnknownColumn___init__ : PySem.W.nsIn K cStatics "thirdparty.any" = some none)
    (me_UnknownColumn___init__ : PySem.W.ks_superIn K C_UnknownColumn C_UnknownColumn "__init__" = some (some (.builtin "LookupError.__init__")))
    (h_UnknownColumn___init__ : PySem.W.findIn K (.ref C_UnknownColumn) "__init__" = some (some (.ref a_UnknownColumn___init__)))
    (ei_UnknownColumn : PySem.W.excInitIn K C_UnknownColumn [.type "LookupError", .type "Exception", .type "BaseException", .type "object"] "LookupError.__new__" = true)
    (eo_UnknownColumn : PySem.W.excOver K C_UnknownColumn [.type "LookupError", .type "Exception", .type "BaseException", .type "object"] = true)
    (ed_UnknownColumn : PySem.W.hasDictIn K C_UnknownColumn = true)
    (esa_UnknownColumn : PySem.W.findIn K (.ref C_UnknownColumn) "__setattr__" = some (some (.builtin "object.__setattr__")))
    (eb_UnknownColumn : PySem.W.subIn K (.ref C_UnknownColumn) (.type "BaseException") = some true)
    (es_UnknownColumn : PySem.W.subIn K (.ref C_UnknownColumn) (.type "LookupError") = some true)
    (et_UnknownColumn : PySem.W.typeIn K (.ref C_UnknownColumn) = some (.type "type"))
    (kc_UnknownColumn : PySem.W.keepIn K (.ref C_UnknownColumn) = true)
    (tk_UnknownColumn_value : PySem.W.takerIn K C_UnknownColumn "value" = some none)
    (h_OutOfRange___init__ : PySem.W.findIn K (.ref C_OutOfRange) "__init__" = some (some (.ref a_OutOfRange___init__)))
    (l_OutOfRange___init__ : K.lookup a_OutOfRange___init__ = some ⟨oc_OutOfRange___init__, od_OutOfRange___init__, .func (PySem.W.fnX "__init__" "OutOfRange.__init__" (defArgs s_OutOfRange___init__) (defBody s_OutOfRange___init__) (defScope s_OutOfRange___init__) [(("__class__" : Str), cc_OutOfRange___init__)] .none kV_OutOfRange___init__ dc_OutOfRange___init__ pm_OutOfRange___init__ an_OutOfRange___init__ (.ref co_OutOfRange___init__) ct_OutOfRange___init__), sl_OutOfRange___init__⟩)
    (lc_OutOfRange___init__ : K.lookup cc_OutOfRange___init__ = some ⟨ccl_OutOfRange___init__, ccd_OutOfRange___init__, .cell (some (.ref C_OutOfRange)), ccs_OutOfRange___init__⟩)
    (c_OutOfRange___init__ : PySem.W.codeIn K (.ref co_OutOfRange___init__) "OutOfRange.__init__" = true)
    (k_OutOfRange___init__ : PySem.W.keepIn K (.ref a_OutOfRange___init__) = true)
    (if_OutOfRange___init__ : PySem.W.isFn K (.ref a_OutOfRange___init__) = true)
    (ca_OutOfRange___init__ : K.lookup co_OutOfRange___init__ = some ⟨coc_OutOfRange___init__, cod_OutOfRange___init__, .fields vs_OutOfRange___init__, cos_OutOfRange___init__⟩)
    (cb_OutOfRange___init__ : vs_OutOfRange___init__[2]? = some (.str fl_OutOfRange___init__ tf_OutOfRange___init__))
    (ce_OutOfRange___init__ : ((l.prog.main.file : Str) == fl_OutOfRange___init__) = true)
    (tp_OutOfRange___init__ : (l.prog.main.scope.names.lookup ("super" : Str)).isSome = false)
    (su_OutOfRange___init__ : PySem.W.mroIn K C_OutOfRange (.ref C_OutOfRange) = some true)
    (op_OutOfRange___init__ : PySem.W.nsIn K cStatics "thirdparty.any" = some none)
    (me_OutOfRange___init__ : PySem.W.ks_superIn K C_OutOfRange C_OutOfRange "__init__" = some (some (.builtin "LookupError.__init__")))
    (h_OutOfRange___init__ : PySem.W.findIn K (.ref C_OutOfRange) "__init__" = some (some (.ref a_OutOfRange___init__)))
    (ei_OutOfRange : PySem.W.excInitIn K C_OutOfRange [.type "LookupError", .type "Exception", .type "BaseException", .type "object"] "LookupError.__new__" = true)
    (eo_OutOfRange : PySem.W.excOver K C_OutOfRange [.type "LookupError", .type "Exception", .type "BaseException", .type "object"] = true)
    (ed_OutOfRange : PySem.W.hasDictIn K C_OutOfRange = true)
    (esa_OutOfRange : PySem.W.findIn K (.ref C_OutOfRange) "__setattr__" = some (some (.builtin "object.__setattr__")))
    (eb_OutOfRange : PySem.W.subIn K (.ref C_OutOfRange) (.type "BaseException") = some true)
    (es_OutOfRange : PySem.W.subIn K (.ref C_OutOfRange) (.type "LookupError") = some true)
    (et_OutOfRange : PySem.W.typeIn K (.ref C_OutOfRange) = some (.type "type"))
    (kc_OutOfRange : PySem.W.keepIn K (.ref C_OutOfRange) = true)
    (tk_OutOfRange_value : PySem.W.takerIn K C_OutOfRange "value" = some none)
    (h_NoAnswer___init__ : PySem.W.findIn K (.ref C_NoAnswer) "__init__" = some (some (.ref a_NoAnswer___init__)))
    (l_NoAnswer___init__ : K.lookup a_NoAnswer___init__ = some ⟨oc_NoAnswer___init__, od_NoAnswer___init__, .func (PySem.W.fnX "__init__" "NoAnswer.__init__" (defArgs s_NoAnswer___init__) (defBody s_NoAnswer___init__) (defScope s_NoAnswer___init__) [(("__class__" : Str), cc_NoAnswer___init__)] .none kV_NoAnswer___init__ dc_NoAnswer___init__ pm_NoAnswer___init__ an_NoAnswer___init__ (.ref co_NoAnswer___init__) ct_NoAnswer___init__), sl_NoAnswer___init__⟩)
    (lc_NoAnswer___init__ : K.lookup cc_NoAnswer___init__ = some ⟨ccl_NoAnswer___init__, ccd_NoAnswer___init__, .cell (some (.ref C_NoAnswer)), ccs_NoAnswer___init__⟩)
    (c_NoAnswer___init__ : PySem.W.codeIn K (.ref co_NoAnswer___init__) "NoAnswer.__init__" = true)
    (k_NoAnswer___init__ : PySem.W.keepIn K (.ref a_NoAnswer___init__) = true)
    (if_NoAnswer___init__ : PySem.W.isFn K (.ref a_NoAnswer___init__) = true)
    (ca_NoAnswer___init__ : K.lookup co_NoAnswer___init__ = some ⟨coc_NoAnswer___init__, cod_NoAnswer___init__, .fields vs_NoAnswer___init__, cos_NoAnswer___init__⟩)
    (cb_NoAnswer___init__ : vs_NoAnswer___init__[2]? = some (.str fl_NoAnswer___init__ tf_NoAnswer___init__))
    (ce_NoAnswer___init__ : ((l.prog.main.file : Str) == fl_NoAnswer___init__) = true)
    (tp_NoAnswer___init__ : (l.prog.main.scope.names.lookup ("super" : Str)).isSome = false)
    (su_NoAnswer___init__ : PySem.W.mroIn K C_NoAnswer (.ref C_NoAnswer) = some true)
    (op_NoAnswer___init__ : PySem.W.nsIn K cStatics "thirdparty.any" = some none)
    (me_NoAnswer___init__ : PySem.W.ks_superIn K C_NoAnswer C_NoAnswer "__init__" = some (some (.builtin "LookupError.__init__")))
    (h_NoAnswer___init__ : PySem.W.findIn K (.ref C_NoAnswer) "__init__" = some (some (.ref a_NoAnswer___init__)))
    (ei_NoAnswer : PySem.W.excInitIn K C_NoAnswer [.type "LookupError", .type "Exception", .type "BaseException", .type "object"] "LookupError.__new__" = true)
    (eo_NoAnswer : PySem.W.excOver K C_NoAnswer [.type "LookupError", .type "Exception", .type "BaseException", .type "object"] = true)
    (ed_NoAnswer : PySem.W.hasDictIn K C_NoAnswer = true)
    (esa_NoAnswer : PySem.W.findIn K (.ref C_NoAnswer) "__setattr__" = some (some (.builtin "object.__setattr__")))
    (eb_NoAnswer : PySem.W.subIn K (.ref C_NoAnswer) (.type "BaseException") = some true)
    (es_NoAnswer : PySem.W.subIn K (.ref C_NoAnswer) (.type "LookupError") = some true)
    (et_NoAnswer : PySem.W.typeIn K (.ref C_NoAnswer) = some (.type "type"))
    (kc_NoAnswer : PySem.W.keepIn K (.ref C_NoAnswer) = true)
    (tk_NoAnswer_value : PySem.W.takerIn K C_NoAnswer "value" = some none)
    (h_NoCase___init__ : PySem.W.findIn K (.ref C_NoCase) "__init__" = some (some (.ref a_NoCase___init__)))
    (l_NoCase___init__ : K.lookup a_NoCase___init__ = some ⟨oc_NoCase___init__, od_NoCase___init__, .func (PySem.W.fnX "__init__" "NoCase.__init__" (defArgs s_NoCase___init__) (defBody s_NoCase___init__) (defScope s_NoCase___init__) [(("__class__" : Str), cc_NoCase___init__)] .none kV_NoCase___init__ dc_NoCase___init__ pm_NoCase___init__ an_NoCase___init__ (.ref co_NoCase___init__) ct_NoCase___init__), sl_NoCase___init__⟩)
    (lc_NoCase___init__ : K.lookup cc_NoCase___init__ = some ⟨ccl_NoCase___init__, ccd_NoCase___init__, .cell (some (.ref C_NoCase)), ccs_NoCase___init__⟩)
    (c_NoCase___init__ : PySem.W.codeIn K (.ref co_NoCase___init__) "NoCase.__init__" = true)
    (k_NoCase___init__ : PySem.W.keepIn K (.ref a_NoCase___init__) = true)
    (if_NoCase___init__ : PySem.W.isFn K (.ref a_NoCase___init__) = true)
    (ca_NoCase___init__ : K.lookup co_NoCase___init__ = some ⟨coc_NoCase___init__, cod_NoCase___init__, .fields vs_NoCase___init__, cos_NoCase___init__⟩)
    (cb_NoCase___init__ : vs_NoCase___init__[2]? = some (.str fl_NoCase___init__ tf_NoCase___init__))
    (ce_NoCase___init__ : ((l.prog.main.file : Str) == fl_NoCase___init__) = true)
    (tp_NoCase___init__ : (l.prog.main.scope.names.lookup ("super" : Str)).isSome = false)
    (su_NoCase___init__ : PySem.W.mroIn K C_NoCase (.ref C_NoCase) = some true)
    (op_NoCase___init__ : PySem.W.nsIn K cStatics "thirdparty.any" = some none)
    (me_NoCase___init__ : PySem.W.ks_superIn K C_NoCase C_NoCase "__init__" = some (some (.builtin "LookupError.__init__")))
    (h_NoCase___init__ : PySem.W.findIn K (.ref C_NoCase) "__init__" = some (some (.ref a_NoCase___init__)))
    (ei_NoCase : PySem.W.excInitIn K C_NoCase [.type "LookupError", .type "Exception", .type "BaseException", .type "object"] "LookupError.__new__" = true)
    (eo_NoCase : PySem.W.excOver K C_NoCase [.type "LookupError", .type "Exception", .type "BaseException", .type "object"] = true)
    (ed_NoCase : PySem.W.hasDictIn K C_NoCase = true)
    (esa_NoCase : PySem.W.findIn K (.ref C_NoCase) "__setattr__" = some (some (.builtin "object.__setattr__")))
    (eb_NoCase : PySem.W.subIn K (.ref C_NoCase) (.type "BaseException") = some true)
    (es_NoCase : PySem.W.subIn K (.ref C_NoCase) (.type "LookupError") = some true)
    (et_NoCase : PySem.W.typeIn K (.ref C_NoCase) = some (.type "type"))
    (kc_NoCase : PySem.W.keepIn K (.ref C_NoCase) = true)
    (tk_NoCase_case : PySem.W.takerIn K C_NoCase "case" = some none)
    (h_NoBranch___init__ : PySem.W.findIn K (.ref C_NoBranch) "__init__" = some (some (.ref a_NoBranch___init__)))
    (l_NoBranch___init__ : K.lookup a_NoBranch___init__ = some ⟨oc_NoBranch___init__, od_NoBranch___init__, .func (PySem.W.fnX "__init__" "NoBranch.__init__" (defArgs s_NoBranch___init__) (defBody s_NoBranch___init__) (defScope s_NoBranch___init__) [(("__class__" : Str), cc_NoBranch___init__)] .none kV_NoBranch___init__ dc_NoBranch___init__ pm_NoBranch___init__ an_NoBranch___init__ (.ref co_NoBranch___init__) ct_NoBranch___init__), sl_NoBranch___init__⟩)
    (lc_NoBranch___init__ : K.lookup cc_NoBranch___init__ = some ⟨ccl_NoBranch___init__, ccd_NoBranch___init__, .cell (some (.ref C_NoBranch)), ccs_NoBranch___init__⟩)
    (c_NoBranch___init__ : PySem.W.codeIn K (.ref co_NoBranch___init__) "NoBranch.__init__" = true)
    (k_NoBranch___init__ : PySem.W.keepIn K (.ref a_NoBranch___init__) = true)
    (if_NoBranch___init__ : PySem.W.isFn K (.ref a_NoBranch___init__) = true)
    (ca_NoBranch___init__ : K.lookup co_NoBranch___init__ = some ⟨coc_NoBranch___init__, cod_NoBranch___init__, .fields vs_NoBranch___init__, cos_NoBranch___init__⟩)
    (cb_NoBranch___init__ : vs_NoBranch___init__[2]? = some (.str fl_NoBranch___init__ tf_NoBranch___init__))
    (ce_NoBranch___init__ : ((l.prog.main.file : Str) == fl_NoBranch___init__) = true)
    (tp_NoBranch___init__ : (l.prog.main.scope.names.lookup ("super" : Str)).isSome = false)
    (su_NoBranch___init__ : PySem.W.mroIn K C_NoBranch (.ref C_NoBranch) = some true)
    (op_NoBranch___init__ : PySem.W.nsIn K cStatics "thirdparty.any" = some none)
    (me_NoBranch___init__ : PySem.W.ks_superIn K C_NoBranch C_NoBranch "__init__" = some (some (.builtin "LookupError.__init__")))
    (h_NoBranch___init__ : PySem.W.findIn K (.ref C_NoBranch) "__init__" = some (some (.ref a_NoBranch___init__)))
    (ei_NoBranch : PySem.W.excInitIn K C_NoBranch [.type "LookupError", .type "Exception", .type "BaseException", .type "object"] "LookupError.__new__" = true)
    (eo_NoBranch : PySem.W.excOver K C_NoBranch [.type "LookupError", .type "Exception", .type "BaseException", .type "object"] = true)
    (ed_NoBranch : PySem.W.hasDictIn K C_NoBranch = true)
    (esa_NoBranch : PySem.W.findIn K (.ref C_NoBranch) "__setattr__" = some (some (.builtin "object.__setattr__")))
    (eb_NoBranch : PySem.W.subIn K (.ref C_NoBranch) (.type "BaseException") = some true)
    (es_NoBranch : PySem.W.subIn K (.ref C_NoBranch) (.type "LookupError") = some true)
    (et_NoBranch : PySem.W.typeIn K (.ref C_NoBranch) = some (.type "type"))
    (kc_NoBranch : PySem.W.keepIn K (.ref C_NoBranch) = true)
    (tk_NoBranch_value : PySem.W.takerIn K C_NoBranch "value" = some none)
    (h_TooMany___init__ : PySem.W.findIn K (.ref C_TooMany) "__init__" = some (some (.ref a_TooMany___init__)))
    (l_TooMany___init__ : K.lookup a_TooMany___init__ = some ⟨oc_TooMany___init__, od_TooMany___init__, .func (PySem.W.fnX "__init__" "TooMany.__init__" (defArgs s_TooMany___init__) (defBody s_TooMany___init__) (defScope s_TooMany___init__) [(("__class__" : Str), cc_TooMany___init__)] .none kV_TooMany___init__ dc_TooMany___init__ pm_TooMany___init__ an_TooMany___init__ (.ref co_TooMany___init__) ct_TooMany___init__), sl_TooMany___init__⟩)
    (lc_TooMany___init__ : K.lookup cc_TooMany___init__ = some ⟨ccl_TooMany___init__, ccd_TooMany___init__, .cell (some (.ref C_TooMany)), ccs_TooMany___init__⟩)
    (c_TooMany___init__ : PySem.W.codeIn K (.ref co_TooMany___init__) "TooMany.__init__" = true)
    (k_TooMany___init__ : PySem.W.keepIn K (.ref a_TooMany___init__) = true)
    (if_TooMany___init__ : PySem.W.isFn K (.ref a_TooMany___init__) = true)
    (ca_TooMany___init__ : K.lookup co_TooMany___init__ = some ⟨coc_TooMany___init__, cod_TooMany___init__, .fields vs_TooMany___init__, cos_TooMany___init__⟩)
    (cb_TooMany___init__ : vs_TooMany___init__[2]? = some (.str fl_TooMany___init__ tf_TooMany___init__))
    (ce_TooMany___init__ : ((l.prog.main.file : Str) == fl_TooMany___init__) = true)
    (tp_TooMany___init__ : (l.prog.main.scope.names.lookup ("super" : Str)).isSome = false)
    (su_TooMany___init__ : PySem.W.mroIn K C_TooMany (.ref C_TooMany) = some true)
    (op_TooMany___init__ : PySem.W.nsIn K cStatics "thirdparty.any" = some none)
    (me_TooMany___init__ : PySem.W.ks_superIn K C_TooMany C_TooMany "__init__" = some (some (.builtin "OverflowError.__init__")))
    (h_TooMany___init__ : PySem.W.findIn K (.ref C_TooMany) "__init__" = some (some (.ref a_TooMany___init__)))
    (ei_TooMany : PySem.W.excInitIn K C_TooMany [.type "OverflowError", .type "ArithmeticError", .type "Exception", .type "BaseException", .type "object"] "OverflowError.__new__" = true)
    (eo_TooMany : PySem.W.excOver K C_TooMany [.type "OverflowError", .type "ArithmeticError", .type "Exception", .type "BaseException", .type "object"] = true)
    (ed_TooMany : PySem.W.hasDictIn K C_TooMany = true)
    (esa_TooMany : PySem.W.findIn K (.ref C_TooMany) "__setattr__" = some (some (.builtin "object.__setattr__")))
    (eb_TooMany : PySem.W.subIn K (.ref C_TooMany) (.type "BaseException") = some true)
    (es_TooMany : PySem.W.subIn K (.ref C_TooMany) (.type "OverflowError") = some true)
    (et_TooMany : PySem.W.typeIn K (.ref C_TooMany) = some (.type "type"))
    (kc_TooMany : PySem.W.keepIn K (.ref C_TooMany) = true)
    (tk_TooMany_limit : PySem.W.takerIn K C_TooMany "limit" = some none)
    (h_TooDear___init__ : PySem.W.findIn K (.ref C_TooDear) "__init__" = some (some (.ref a_TooDear___init__)))
    (l_TooDear___init__ : K.lookup a_TooDear___init__ = some ⟨oc_TooDear___init__, od_TooDear___init__, .func (PySem.W.fnX "__init__" "TooDear.__init__" (defArgs s_TooDear___init__) (defBody s_TooDear___init__) (defScope s_TooDear___init__) [(("__class__" : Str), cc_TooDear___init__)] .none kV_TooDear___init__ dc_TooDear___init__ pm_TooDear___init__ an_TooDear___init__ (.ref co_TooDear___init__) ct_TooDear___init__), sl_TooDear___init__⟩)
    (lc_TooDear___init__ : K.lookup cc_TooDear___init__ = some ⟨ccl_TooDear___init__, ccd_TooDear___init__, .cell (some (.ref C_TooDear)), ccs_TooDear___init__⟩)
    (c_TooDear___init__ : PySem.W.codeIn K (.ref co_TooDear___init__) "TooDear.__init__" = true)
    (k_TooDear___init__ : PySem.W.keepIn K (.ref a_TooDear___init__) = true)
    (if_TooDear___init__ : PySem.W.isFn K (.ref a_TooDear___init__) = true)
    (ca_TooDear___init__ : K.lookup co_TooDear___init__ = some ⟨coc_TooDear___init__, cod_TooDear___init__, .fields vs_TooDear___init__, cos_TooDear___init__⟩)
    (cb_TooDear___init__ : vs_TooDear___init__[2]? = some (.str fl_TooDear___init__ tf_TooDear___init__))
    (ce_TooDear___init__ : ((l.prog.main.file : Str) == fl_TooDear___init__) = true)
    (tp_TooDear___init__ : (l.prog.main.scope.names.lookup ("super" : Str)).isSome = false)
    (su_TooDear___init__ : PySem.W.mroIn K C_TooDear (.ref C_TooDear) = some true)
    (op_TooDear___init__ : PySem.W.nsIn K cStatics "thirdparty.any" = some none)
    (me_TooDear___init__ : PySem.W.ks_superIn K C_TooDear C_TooDear "__init__" = some (some (.builtin "OverflowError.__init__")))
    (h_TooDear___init__ : PySem.W.findIn K (.ref C_TooDear) "__init__" = some (some (.ref a_TooDear___init__)))
    (ei_TooDear : PySem.W.excInitIn K C_TooDear [.type "OverflowError", .type "ArithmeticError", .type "Exception", .type "BaseException", .type "object"] "OverflowError.__new__" = true)
    (eo_TooDear : PySem.W.excOver K C_TooDear [.type "OverflowError", .type "ArithmeticError", .type "Exception", .type "BaseException", .type "object"] = true)
    (ed_TooDear : PySem.W.hasDictIn K C_TooDear = true)
    (esa_TooDear : PySem.W.findIn K (.ref C_TooDear) "__setattr__" = some (some (.builtin "object.__setattr__")))
    (eb_TooDear : PySem.W.subIn K (.ref C_TooDear) (.type "BaseException") = some true)
    (es_TooDear : PySem.W.subIn K (.ref C_TooDear) (.type "OverflowError") = some true)
    (et_TooDear : PySem.W.typeIn K (.ref C_TooDear) = some (.type "type"))
    (kc_TooDear : PySem.W.keepIn K (.ref C_TooDear) = true)
    (tk_TooDear_number : PySem.W.takerIn K C_TooDear "number" = some none)
    (h_Broken___init__ : PySem.W.findIn K (.ref C_Broken) "__init__" = some (some (.ref a_Broken___init__)))
    (l_Broken___init__ : K.lookup a_Broken___init__ = some ⟨oc_Broken___init__, od_Broken___init__, .func (PySem.W.fnX "__init__" "Broken.__init__" (defArgs s_Broken___init__) (defBody s_Broken___init__) (defScope s_Broken___init__) [(("__class__" : Str), cc_Broken___init__)] .none kV_Broken___init__ dc_Broken___init__ pm_Broken___init__ an_Broken___init__ (.ref co_Broken___init__) ct_Broken___init__), sl_Broken___init__⟩)
    (lc_Broken___init__ : K.lookup cc_Broken___init__ = some ⟨ccl_Broken___init__, ccd_Broken___init__, .cell (some (.ref C_Broken)), ccs_Broken___init__⟩)
    (c_Broken___init__ : PySem.W.codeIn K (.ref co_Broken___init__) "Broken.__init__" = true)
    (k_Broken___init__ : PySem.W.keepIn K (.ref a_Broken___init__) = true)
    (if_Broken___init__ : PySem.W.isFn K (.ref a_Broken___init__) = true)
    (ca_Broken___init__ : K.lookup co_Broken___init__ = some ⟨coc_Broken___init__, cod_Broken___init__, .fields vs_Broken___init__, cos_Broken___init__⟩)
    (cb_Broken___init__ : vs_Broken___init__[2]? = some (.str fl_Broken___init__ tf_Broken___init__))
    (ce_Broken___init__ : ((l.prog.main.file : Str) == fl_Broken___init__) = true)
    (tp_Broken___init__ : (l.prog.main.scope.names.lookup ("super" : Str)).isSome = false)
    (su_Broken___init__ : PySem.W.mroIn K C_Broken (.ref C_Broken) = some true)
    (op_Broken___init__ : PySem.W.nsIn K cStatics "thirdparty.any" = some none)
    (me_Broken___init__ : PySem.W.ks_superIn K C_Broken C_Broken "__init__" = some (some (.builtin "RuntimeError.__init__")))
    (h_Broken___init__ : PySem.W.findIn K (.ref C_Broken) "__init__" = some (some (.ref a_Broken___init__)))
    (ei_Broken : PySem.W.excInitIn K C_Broken [.type "RuntimeError", .type "Exception", .type "BaseException", .type "object"] "RuntimeError.__new__" = true)
    (eo_Broken : PySem.W.excOver K C_Broken [.type "RuntimeError", .type "Exception", .type "BaseException", .type "object"] = true)
    (ed_Broken : PySem.W.hasDictIn K C_Broken = true)
    (esa_Broken : PySem.W.findIn K (.ref C_Broken) "__setattr__" = some (some (.builtin "object.__setattr__")))
    (eb_Broken : PySem.W.subIn K (.ref C_Broken) (.type "BaseException") = some true)
    (es_Broken : PySem.W.subIn K (.ref C_Broken) (.type "RuntimeError") = some true)
    (et_Broken : PySem.W.typeIn K (.ref C_Broken) = some (.type "type"))
    (kc_Broken : PySem.W.keepIn K (.ref C_Broken) = true)
    (tk_Broken_index : PySem.W.takerIn K C_Broken "index" = some none)
    (tk_Broken_spot : PySem.W.takerIn K C_Broken "spot" = some none)
    (h_Unfit___init__ : PySem.W.findIn K (.ref C_Unfit) "__init__" = some (some (.ref a_Unfit___init__)))
    (l_Unfit___init__ : K.lookup a_Unfit___init__ = some ⟨oc_Unfit___init__, od_Unfit___init__, .func (PySem.W.fnX "__init__" "Unfit.__init__" (defArgs s_Unfit___init__) (defBody s_Unfit___init__) (defScope s_Unfit___init__) [(("__class__" : Str), cc_Unfit___init__)] .none kV_Unfit___init__ dc_Unfit___init__ pm_Unfit___init__ an_Unfit___init__ (.ref co_Unfit___init__) ct_Unfit___init__), sl_Unfit___init__⟩)
    (lc_Unfit___init__ : K.lookup cc_Unfit___init__ = some ⟨ccl_Unfit___init__, ccd_Unfit___init__, .cell (some (.ref C_Unfit)), ccs_Unfit___init__⟩)
    (c_Unfit___init__ : PySem.W.codeIn K (.ref co_Unfit___init__) "Unfit.__init__" = true)
    (k_Unfit___init__ : PySem.W.keepIn K (.ref a_Unfit___init__) = true)
    (if_Unfit___init__ : PySem.W.isFn K (.ref a_Unfit___init__) = true)
    (ca_Unfit___init__ : K.lookup co_Unfit___init__ = some ⟨coc_Unfit___init__, cod_Unfit___init__, .fields vs_Unfit___init__, cos_Unfit___init__⟩)
    (cb_Unfit___init__ : vs_Unfit___init__[2]? = some (.str fl_Unfit___init__ tf_Unfit___init__))
    (ce_Unfit___init__ : ((l.prog.main.file : Str) == fl_Unfit___init__) = true)
    (tp_Unfit___init__ : (l.prog.main.scope.names.lookup ("super" : Str)).isSome = false)
    (su_Unfit___init__ : PySem.W.mroIn K C_Unfit (.ref C_Unfit) = some true)
    (op_Unfit___init__ : PySem.W.nsIn K cStatics "thirdparty.any" = some none)
    (me_Unfit___init__ : PySem.W.ks_superIn K C_Unfit C_Unfit "__init__" = some (some (.builtin "RuntimeError.__init__")))
    (h_Unfit___init__ : PySem.W.findIn K (.ref C_Unfit) "__init__" = some (some (.ref a_Unfit___init__)))
    (ei_Unfit : PySem.W.excInitIn K C_Unfit [.type "RuntimeError", .type "Exception", .type "BaseException", .type "object"] "RuntimeError.__new__" = true)
    (eo_Unfit : PySem.W.excOver K C_Unfit [.type "RuntimeError", .type "Exception", .type "BaseException", .type "object"] = true)
    (ed_Unfit : PySem.W.hasDictIn K C_Unfit = true)
    (esa_Unfit : PySem.W.findIn K (.ref C_Unfit) "__setattr__" = some (some (.builtin "object.__setattr__")))
    (eb_Unfit : PySem.W.subIn K (.ref C_Unfit) (.type "BaseException") = some true)
    (es_Unfit : PySem.W.subIn K (.ref C_Unfit) (.type "RuntimeError") = some true)
    (et_Unfit : PySem.W.typeIn K (.ref C_Unfit) = some (.type "type"))
    (kc_Unfit : PySem.W.keepIn K (.ref C_Unfit) = true)
    (tk_Unfit_index : PySem.W.takerIn K C_Unfit "index" = some none)
    (h_Refused___init__ : PySem.W.findIn K (.ref C_Refused) "__init__" = some (some (.ref a_Refused___init__)))
    (l_Refused___init__ : K.lookup a_Refused___init__ = some ⟨oc_Refused___init__, od_Refused___init__, .func (PySem.W.fnX "__init__" "Refused.__init__" (defArgs s_Refused___init__) (defBody s_Refused___init__) (defScope s_Refused___init__) [(("__class__" : Str), cc_Refused___init__)] .none kV_Refused___init__ dc_Refused___init__ pm_Refused___init__ an_Refused___init__ (.ref co_Refused___init__) ct_Refused___init__), sl_Refused___init__⟩)
    (lc_Refused___init__ : K.lookup cc_Refused___init__ = some ⟨ccl_Refused___init__, ccd_Refused___init__, .cell (some (.ref C_Refused)), ccs_Refused___init__⟩)
    (c_Refused___init__ : PySem.W.codeIn K (.ref co_Refused___init__) "Refused.__init__" = true)
    (k_Refused___init__ : PySem.W.keepIn K (.ref a_Refused___init__) = true)
    (if_Refused___init__ : PySem.W.isFn K (.ref a_Refused___init__) = true)
    (ca_Refused___init__ : K.lookup co_Refused___init__ = some ⟨coc_Refused___init__, cod_Refused___init__, .fields vs_Refused___init__, cos_Refused___init__⟩)
    (cb_Refused___init__ : vs_Refused___init__[2]? = some (.str fl_Refused___init__ tf_Refused___init__))
    (ce_Refused___init__ : ((l.prog.main.file : Str) == fl_Refused___init__) = true)
    (tp_Refused___init__ : (l.prog.main.scope.names.lookup ("super" : Str)).isSome = false)
    (su_Refused___init__ : PySem.W.mroIn K C_Refused (.ref C_Refused) = some true)
    (op_Refused___init__ : PySem.W.nsIn K cStatics "thirdparty.any" = some none)
    (me_Refused___init__ : PySem.W.ks_superIn K C_Refused C_Refused "__init__" = some (some (.builtin "RuntimeError.__init__")))
    (h_Refused___init__ : PySem.W.findIn K (.ref C_Refused) "__init__" = some (some (.ref a_Refused___init__)))
    (ei_Refused : PySem.W.excInitIn K C_Refused [.type "RuntimeError", .type "Exception", .type "BaseException", .type "object"] "RuntimeError.__new__" = true)
    (eo_Refused : PySem.W.excOver K C_Refused [.type "RuntimeError", .type "Exception", .type "BaseException", .type "object"] = true)
    (ed_Refused : PySem.W.hasDictIn K C_Refused = true)
    (esa_Refused : PySem.W.findIn K (.ref C_Refused) "__setattr__" = some (some (.builtin "object.__setattr__")))
    (eb_Refused : PySem.W.subIn K (.ref C_Refused) (.type "BaseException") = some true)
    (es_Refused : PySem.W.subIn K (.ref C_Refused) (.type "RuntimeError") = some true)
    (et_Refused : PySem.W.typeIn K (.ref C_Refused) = some (.type "type"))
    (kc_Refused : PySem.W.keepIn K (.ref C_Refused) = true)
    (tk_Refused_change : PySem.W.takerIn K C_Refused "change" = some none)
    (h_LookFailed___init__ : PySem.W.findIn K (.ref C_LookFailed) "__init__" = some (some (.ref a_LookFailed___init__)))
    (l_LookFailed___init__ : K.lookup a_LookFailed___init__ = some ⟨oc_LookFailed___init__, od_LookFailed___init__, .func (PySem.W.fnX "__init__" "LookFailed.__init__" (defArgs s_LookFailed___init__) (defBody s_LookFailed___init__) (defScope s_LookFailed___init__) [(("__class__" : Str), cc_LookFailed___init__)] .none kV_LookFailed___init__ dc_LookFailed___init__ pm_LookFailed___init__ an_LookFailed___init__ (.ref co_LookFailed___init__) ct_LookFailed___init__), sl_LookFailed___init__⟩)
    (lc_LookFailed___init__ : K.lookup cc_LookFailed___init__ = some ⟨ccl_LookFailed___init__, ccd_LookFailed___init__, .cell (some (.ref C_LookFailed)), ccs_LookFailed___init__⟩)
    (c_LookFailed___init__ : PySem.W.codeIn K (.ref co_LookFailed___init__) "LookFailed.__init__" = true)
    (k_LookFailed___init__ : PySem.W.keepIn K (.ref a_LookFailed___init__) = true)
    (if_LookFailed___init__ : PySem.W.isFn K (.ref a_LookFailed___init__) = true)
    (ca_LookFailed___init__ : K.lookup co_LookFailed___init__ = some ⟨coc_LookFailed___init__, cod_LookFailed___init__, .fields vs_LookFailed___init__, cos_LookFailed___init__⟩)
    (cb_LookFailed___init__ : vs_LookFailed___init__[2]? = some (.str fl_LookFailed___init__ tf_LookFailed___init__))
    (ce_LookFailed___init__ : ((l.prog.main.file : Str) == fl_LookFailed___init__) = true)
    (tp_LookFailed___init__ : (l.prog.main.scope.names.lookup ("super" : Str)).isSome = false)
    (su_LookFailed___init__ : PySem.W.mroIn K C_LookFailed (.ref C_LookFailed) = some true)
    (op_LookFailed___init__ : PySem.W.nsIn K cStatics "thirdparty.any" = some none)
    (me_LookFailed___init__ : PySem.W.ks_superIn K C_LookFailed C_LookFailed "__init__" = some (some (.builtin "RuntimeError.__init__")))
    (h_LookFailed___init__ : PySem.W.findIn K (.ref C_LookFailed) "__init__" = some (some (.ref a_LookFailed___init__)))
    (ei_LookFailed : PySem.W.excInitIn K C_LookFailed [.type "RuntimeError", .type "Exception", .type "BaseException", .type "object"] "RuntimeError.__new__" = true)
    (eo_LookFailed : PySem.W.excOver K C_LookFailed [.type "RuntimeError", .type "Exception", .type "BaseException", .type "object"] = true)
    (ed_LookFailed : PySem.W.hasDictIn K C_LookFailed = true)
    (esa_LookFailed : PySem.W.findIn K (.ref C_LookFailed) "__setattr__" = some (some (.builtin "object.__setattr__")))
    (eb_LookFailed : PySem.W.subIn K (.ref C_LookFailed) (.type "BaseException") = some true)
    (es_LookFailed : PySem.W.subIn K (.ref C_LookFailed) (.type "RuntimeError") = some true)
    (et_LookFailed : PySem.W.typeIn K (.ref C_LookFailed) = some (.type "type"))
    (kc_LookFailed : PySem.W.keepIn K (.ref C_LookFailed) = true)
    (tk_LookFailed_number : PySem.W.takerIn K C_LookFailed "number" = some none)
    (h_NoLook___init__ : PySem.W.findIn K (.ref C_NoLook) "__init__" = some (some (.ref a_NoLook___init__)))
    (l_NoLook___init__ : K.lookup a_NoLook___init__ = some ⟨oc_NoLook___init__, od_NoLook___init__, .func (PySem.W.fnX "__init__" "NoLook.__init__" (defArgs s_NoLook___init__) (defBody s_NoLook___init__) (defScope s_NoLook___init__) [(("__class__" : Str), cc_NoLook___init__)] .none kV_NoLook___init__ dc_NoLook___init__ pm_NoLook___init__ an_NoLook___init__ (.ref co_NoLook___init__) ct_NoLook___init__), sl_NoLook___init__⟩)
    (lc_NoLook___init__ : K.lookup cc_NoLook___init__ = some ⟨ccl_NoLook___init__, ccd_NoLook___init__, .cell (some (.ref C_NoLook)), ccs_NoLook___init__⟩)
    (c_NoLook___init__ : PySem.W.codeIn K (.ref co_NoLook___init__) "NoLook.__init__" = true)
    (k_NoLook___init__ : PySem.W.keepIn K (.ref a_NoLook___init__) = true)
    (if_NoLook___init__ : PySem.W.isFn K (.ref a_NoLook___init__) = true)
    (ca_NoLook___init__ : K.lookup co_NoLook___init__ = some ⟨coc_NoLook___init__, cod_NoLook___init__, .fields vs_NoLook___init__, cos_NoLook___init__⟩)
    (cb_NoLook___init__ : vs_NoLook___init__[2]? = some (.str fl_NoLook___init__ tf_NoLook___init__))
    (ce_NoLook___init__ : ((l.prog.main.file : Str) == fl_NoLook___init__) = true)
    (tp_NoLook___init__ : (l.prog.main.scope.names.lookup ("super" : Str)).isSome = false)
    (su_NoLook___init__ : PySem.W.mroIn K C_NoLook (.ref C_NoLook) = some true)
    (op_NoLook___init__ : PySem.W.nsIn K cStatics "thirdparty.any" = some none)
    (me_NoLook___init__ : PySem.W.ks_superIn K C_NoLook C_NoLook "__init__" = some (some (.builtin "RuntimeError.__init__")))
    (h_NoLook___init__ : PySem.W.findIn K (.ref C_NoLook) "__init__" = some (some (.ref a_NoLook___init__)))
    (ei_NoLook : PySem.W.excInitIn K C_NoLook [.type "RuntimeError", .type "Exception", .type "BaseException", .type "object"] "RuntimeError.__new__" = true)
    (eo_NoLook : PySem.W.excOver K C_NoLook [.type "RuntimeError", .type "Exception", .type "BaseException", .type "object"] = true)
    (ed_NoLook : PySem.W.hasDictIn K C_NoLook = true)
    (esa_NoLook : PySem.W.findIn K (.ref C_NoLook) "__setattr__" = some (some (.builtin "object.__setattr__")))
    (eb_NoLook : PySem.W.subIn K (.ref C_NoLook) (.type "BaseException") = some true)
    (es_NoLook : PySem.W.subIn K (.ref C_NoLook) (.type "RuntimeError") = some true)
    (et_NoLook : PySem.W.typeIn K (.ref C_NoLook) = some (.type "type"))
    (kc_NoLook : PySem.W.keepIn K (.ref C_NoLook) = true)
    (tk_NoLook_value : PySem.W.takerIn K C_NoLook "value" = some none)
    (h__law_pen : PySem.W.nsIn K mainGlobals "_law_pen" = some (some (.ref a__law_pen)))
    (l__law_pen : K.lookup a__law_pen = some ⟨oc__law_pen, od__law_pen, .func (PySem.W.fnOf "_law_pen" "_law_pen" (defArgs s__law_pen) (defBody s__law_pen) (defScope s__law_pen) .none kV__law_pen dc__law_pen pm__law_pen an__law_pen cd__law_pen ct__law_pen), sl__law_pen⟩)
    (c__law_pen : PySem.W.codeIn K cd__law_pen "_law_pen" = true)
    (k__law_pen : PySem.W.keepIn K (.ref a__law_pen) = true)
    (h__law_draw : PySem.W.nsIn K mainGlobals "_law_draw" = some (some (.ref a__law_draw)))
    (l__law_draw : K.lookup a__law_draw = some ⟨oc__law_draw, od__law_draw, .func (PySem.W.fnOf "_law_draw" "_law_draw" (defArgs s__law_draw) (defBody s__law_draw) (defScope s__law_draw) .none kV__law_draw dc__law_draw pm__law_draw an__law_draw cd__law_draw ct__law_draw), sl__law_draw⟩)
    (c__law_draw : PySem.W.codeIn K cd__law_draw "_law_draw" = true)
    (k__law_draw : PySem.W.keepIn K (.ref a__law_draw) = true)
    (h__law_pick : PySem.W.nsIn K mainGlobals "_law_pick" = some (some (.ref a__law_pick)))
    (l__law_pick : K.lookup a__law_pick = some ⟨oc__law_pick, od__law_pick, .func (PySem.W.fnOf "_law_pick" "_law_pick" (defArgs s__law_pick) (defBody s__law_pick) (defScope s__law_pick) .none kV__law_pick dc__law_pick pm__law_pick an__law_pick cd__law_pick ct__law_pick), sl__law_pick⟩)
    (c__law_pick : PySem.W.codeIn K cd__law_pick "_law_pick" = true)
    (k__law_pick : PySem.W.keepIn K (.ref a__law_pick) = true)
    (h__law_any_value : PySem.W.nsIn K mainGlobals "_law_any_value" = some (some (.ref a__law_any_value)))
    (l__law_any_value : K.lookup a__law_any_value = some ⟨oc__law_any_value, od__law_any_value, .func (PySem.W.fnOf "_law_any_value" "_law_any_value" (defArgs s__law_any_value) (defBody s__law_any_value) (defScope s__law_any_value) .none kV__law_any_value dc__law_any_value pm__law_any_value an__law_any_value cd__law_any_value ct__law_any_value), sl__law_any_value⟩)
    (c__law_any_value : PySem.W.codeIn K cd__law_any_value "_law_any_value" = true)
    (k__law_any_value : PySem.W.keepIn K (.ref a__law_any_value) = true)
    (h__law_some_errors : PySem.W.nsIn K mainGlobals "_law_some_errors" = some (some (.ref a__law_some_errors)))
    (l__law_some_errors : K.lookup a__law_some_errors = some ⟨oc__law_some_errors, od__law_some_errors, .func (PySem.W.fnOf "_law_some_errors" "_law_some_errors" (defArgs s__law_some_errors) (defBody s__law_some_errors) (defScope s__law_some_errors) .none kV__law_some_errors dc__law_some_errors pm__law_some_errors an__law_some_errors cd__law_some_errors ct__law_some_errors), sl__law_some_errors⟩)
    (c__law_some_errors : PySem.W.codeIn K cd__law_some_errors "_law_some_errors" = true)
    (k__law_some_errors : PySem.W.keepIn K (.ref a__law_some_errors) = true)
    (h__law_other_errors : PySem.W.nsIn K mainGlobals "_law_other_errors" = some (some (.ref a__law_other_errors)))
    (l__law_other_errors : K.lookup a__law_other_errors = some ⟨oc__law_other_errors, od__law_other_errors, .func (PySem.W.fnOf "_law_other_errors" "_law_other_errors" (defArgs s__law_other_errors) (defBody s__law_other_errors) (defScope s__law_other_errors) .none kV__law_other_errors dc__law_other_errors pm__law_other_errors an__law_other_errors cd__law_other_errors ct__law_other_errors), sl__law_other_errors⟩)
    (c__law_other_errors : PySem.W.codeIn K cd__law_other_errors "_law_other_errors" = true)
    (k__law_other_errors : PySem.W.keepIn K (.ref a__law_other_errors) = true)
    (h__law_classes : PySem.W.nsIn K mainGlobals "_law_classes" = some (some (.ref a__law_classes)))
    (l__law_classes : K.lookup a__law_classes = some ⟨oc__law_classes, od__law_classes, .func (PySem.W.fnOf "_law_classes" "_law_classes" (defArgs s__law_classes) (defBody s__law_classes) (defScope s__law_classes) .none kV__law_classes dc__law_classes pm__law_classes an__law_classes cd__law_classes ct__law_classes), sl__law_classes⟩)
    (c__law_classes : PySem.W.codeIn K cd__law_classes "_law_classes" = true)
    (k__law_classes : PySem.W.keepIn K (.ref a__law_classes) = true)
    (h__law_sorts : PySem.W.nsIn K mainGlobals "_law_sorts" = some (some (.ref a__law_sorts)))
    (l__law_sorts : K.lookup a__law_sorts = some ⟨oc__law_sorts, od__law_sorts, .func (PySem.W.fnOf "_law_sorts" "_law_sorts" (defArgs s__law_sorts) (defBody s__law_sorts) (defScope s__law_sorts) .none kV__law_sorts dc__law_sorts pm__law_sorts an__law_sorts cd__law_sorts ct__law_sorts), sl__law_sorts⟩)
    (c__law_sorts : PySem.W.codeIn K cd__law_sorts "_law_sorts" = true)
    (k__law_sorts : PySem.W.keepIn K (.ref a__law_sorts) = true)
    (h_law : PySem.W.nsIn K mainGlobals "law" = some (some (.ref a_law)))
    (l_law : K.lookup a_law = some ⟨oc_law, od_law, .func (PySem.W.fnOf "law" "law" (defArgs s_law) (defBody s_law) (defScope s_law) .none kV_law dc_law pm_law an_law cd_law ct_law), sl_law⟩)
    (c_law : PySem.W.codeIn K cd_law "law" = true)
    (k_law : PySem.W.keepIn K (.ref a_law) = true)
    (x0_InvalidSchema : PySem.W.excIn K C_InvalidSchema [.type "ValueError", .type "Exception", .type "BaseException", .type "object"] "ValueError.__new__" = true)
    (kc_InvalidSchema : PySem.W.keepIn K (.ref C_InvalidSchema) = true)
    (eb_InvalidSchema : PySem.W.subIn K (.ref C_InvalidSchema) (.type "BaseException") = some true)
    (et_InvalidSchema : PySem.W.typeIn K (.ref C_InvalidSchema) = some (.type "type"))
    (x0_OtherSchema : PySem.W.excIn K C_OtherSchema [.type "ValueError", .type "Exception", .type "BaseException", .type "object"] "ValueError.__new__" = true)
    (kc_OtherSchema : PySem.W.keepIn K (.ref C_OtherSchema) = true)
    (eb_OtherSchema : PySem.W.subIn K (.ref C_OtherSchema) (.type "BaseException") = some true)
    (et_OtherSchema : PySem.W.typeIn K (.ref C_OtherSchema) = some (.type "type"))
    (x0_InvalidPair : PySem.W.excIn K C_InvalidPair [.type "ValueError", .type "Exception", .type "BaseException", .type "object"] "ValueError.__new__" = true)
    (kc_InvalidPair : PySem.W.keepIn K (.ref C_InvalidPair) = true)
    (eb_InvalidPair : PySem.W.subIn K (.ref C_InvalidPair) (.type "BaseException") = some true)
    (et_InvalidPair : PySem.W.typeIn K (.ref C_InvalidPair) = some (.type "type"))
    (x0_NoLine : PySem.W.excIn K C_NoLine [.type "ValueError", .type "Exception", .type "BaseException", .type "object"] "ValueError.__new__" = true)
    (kc_NoLine : PySem.W.keepIn K (.ref C_NoLine) = true)
    (eb_NoLine : PySem.W.subIn K (.ref C_NoLine) (.type "BaseException") = some true)
    (et_NoLine : PySem.W.typeIn K (.ref C_NoLine) = some (.type "type"))
    (x0_Nothing : PySem.W.excIn K C_Nothing [.type "LookupError", .type "Exception", .type "BaseException", .type "object"] "LookupError.__new__" = true)
    (kc_Nothing : PySem.W.keepIn K (.ref C_Nothing) = true)
    (eb_Nothing : PySem.W.subIn K (.ref C_Nothing) (.type "BaseException") = some true)
    (et_Nothing : PySem.W.typeIn K (.ref C_Nothing) = some (.type "type"))
    (x0_NeverFits : PySem.W.excIn K C_NeverFits [.type "RuntimeError", .type "Exception", .type "BaseException", .type "object"] "RuntimeError.__new__" = true)
    (kc_NeverFits : PySem.W.keepIn K (.ref C_NeverFits) = true)
    (eb_NeverFits : PySem.W.subIn K (.ref C_NeverFits) (.type "BaseException") = some true)
    (et_NeverFits : PySem.W.typeIn K (.ref C_NeverFits) = some (.type "type"))
    (b_isinstance : PySem.W.nsIn K mainGlobals "isinstance" = some none)
    (b_len : PySem.W.nsIn K mainGlobals "len" = some none)
    (b_list : PySem.W.nsIn K mainGlobals "list" = some none)
    (b_zip : PySem.W.nsIn K mainGlobals "zip" = some none)
    (b_range : PySem.W.nsIn K mainGlobals "range" = some none)
    (b_int : PySem.W.nsIn K mainGlobals "int" = some none)
    (b_abs : PySem.W.nsIn K mainGlobals "abs" = some none)
    (b_repr : PySem.W.nsIn K mainGlobals "repr" = some none)
    (b_min : PySem.W.nsIn K mainGlobals "min" = some none)
    (b_super : PySem.W.nsIn K mainGlobals "super" = some none)
    (b_ValueError : PySem.W.nsIn K mainGlobals "ValueError" = some none)
    (b_LookupError : PySem.W.nsIn K mainGlobals "LookupError" = some none)
    (b_OverflowError : PySem.W.nsIn K mainGlobals "OverflowError" = some none)
    (b_RuntimeError : PySem.W.nsIn K mainGlobals "RuntimeError" = some none)
    (b_IndexError : PySem.W.nsIn K mainGlobals "IndexError" = some none)
    (b_KeyError : PySem.W.nsIn K mainGlobals "KeyError" = some none)
    (b_NotImplementedError : PySem.W.nsIn K mainGlobals "NotImplementedError" = some none)
    (y_MAX_WORD : PySem.W.nsIn K mainGlobals "MAX_WORD" = some (some (.int 8 t_MAX_WORD)))
    (y_MAX_TABLES : PySem.W.nsIn K mainGlobals "MAX_TABLES" = some (some (.int 4 t_MAX_TABLES)))
    (y_MAX_COLUMNS : PySem.W.nsIn K mainGlobals "MAX_COLUMNS" = some (some (.int 3 t_MAX_COLUMNS)))
    (y_MAX_STATEMENTS : PySem.W.nsIn K mainGlobals "MAX_STATEMENTS" = some (some (.int 5 t_MAX_STATEMENTS)))
    (y_MAX_LEAST : PySem.W.nsIn K mainGlobals "MAX_LEAST" = some (some (.int 2 t_MAX_LEAST)))
    (y_MAX_MOST : PySem.W.nsIn K mainGlobals "MAX_MOST" = some (some (.int 3 t_MAX_MOST)))
    (y_MAX_ENTRIES : PySem.W.nsIn K mainGlobals "MAX_ENTRIES" = some (some (.int 3 t_MAX_ENTRIES)))
    (y_MAX_WANTED : PySem.W.nsIn K mainGlobals "MAX_WANTED" = some (some (.int 16 t_MAX_WANTED)))
    (y_MAX_PAPER : PySem.W.nsIn K mainGlobals "MAX_PAPER" = some (some (.int 6 t_MAX_PAPER)))
    (y_MAX_ANSWERS : PySem.W.nsIn K mainGlobals "MAX_ANSWERS" = some (some (.int 200 t_MAX_ANSWERS)))
    (y_MAX_OPEN : PySem.W.nsIn K mainGlobals "MAX_OPEN" = some (some (.int 8 t_MAX_OPEN)))
    (y_MAX_NAMES : PySem.W.nsIn K mainGlobals "MAX_NAMES" = some (some (.int 4 t_MAX_NAMES)))
    (kM : (List.range 31).all (fun i => (List.range 31).all fun j => decide (PySem.W.kitOne K (.ref (([C_InvalidTable, C_InvalidSchema, C_InvalidRow, C_OtherSchema, C_InvalidRule, C_Misfit, C_Circle, C_InvalidFact, C_InvalidChange, C_InvalidAnswer, C_InvalidTemplate, C_InvalidNames, C_InvalidPair, C_InvalidLimit, C_Unreadable, C_NoLine, C_UnknownTable, C_UnknownColumn, C_OutOfRange, C_NoAnswer, C_NoCase, C_NoBranch, C_Nothing, C_TooMany, C_TooDear, C_Broken, C_Unfit, C_NeverFits, C_Refused, C_LookFailed, C_NoLook] : List Addr).getD i 0)) (.ref (([C_InvalidTable, C_InvalidSchema, C_InvalidRow, C_OtherSchema, C_InvalidRule, C_Misfit, C_Circle, C_InvalidFact, C_InvalidChange, C_InvalidAnswer, C_InvalidTemplate, C_InvalidNames, C_InvalidPair, C_InvalidLimit, C_Unreadable, C_NoLine, C_UnknownTable, C_UnknownColumn, C_OutOfRange, C_NoAnswer, C_NoCase, C_NoBranch, C_Nothing, C_TooMany, C_TooDear, C_Broken, C_Unfit, C_NeverFits, C_Refused, C_LookFailed, C_NoLook] : List Addr).getD j 0)) = some (decide (i = j)))) = true)
    (kB : (List.range 31).all (fun i => (List.range 4).all fun j => decide (PySem.W.kitOne K (.ref (([C_InvalidTable, C_InvalidSchema, C_InvalidRow, C_OtherSchema, C_InvalidRule, C_Misfit, C_Circle, C_InvalidFact, C_InvalidChange, C_InvalidAnswer, C_InvalidTemplate, C_InvalidNames, C_InvalidPair, C_InvalidLimit, C_Unreadable, C_NoLine, C_UnknownTable, C_UnknownColumn, C_OutOfRange, C_NoAnswer, C_NoCase, C_NoBranch, C_Nothing, C_TooMany, C_TooDear, C_Broken, C_Unfit, C_NeverFits, C_Refused, C_LookFailed, C_NoLook] : List Addr).getD i 0)) (.type ((["ValueError", "LookupError", "OverflowError", "RuntimeError"] : List String).getD j "")) = some (decide (([0, 0, 0, 0, 0, 0, 0, 0, 0, 0, 0, 0, 0, 0, 0, 0, 1, 1, 1, 1, 1, 1, 1, 2, 2, 3, 3, 3, 3, 3, 3] : List Nat).getD i 9 = j)))) = true)
    (kD : (List.range 31).all (fun i => decide (PySem.W.kitAny K (.ref (([C_InvalidTable, C_InvalidSchema, C_InvalidRow, C_OtherSchema, C_InvalidRule, C_Misfit, C_Circle, C_InvalidFact, C_InvalidChange, C_InvalidAnswer, C_InvalidTemplate, C_InvalidNames, C_InvalidPair, C_InvalidLimit, C_Unreadable, C_NoLine, C_UnknownTable, C_UnknownColumn, C_OutOfRange, C_NoAnswer, C_NoCase, C_NoBranch, C_Nothing, C_TooMany, C_TooDear, C_Broken, C_Unfit, C_NeverFits, C_Refused, C_LookFailed, C_NoLook] : List Addr).getD i 0)) [.type "IndexError", .type "KeyError", .type "NotImplementedError"] = some false)) = true)
    (cg_InvalidTable : PySem.W.findIn K (.ref C_InvalidTable) "__getattribute__" = some (some (.builtin "BaseException.__getattribute__")))
    (cn_InvalidTable : PySem.W.findIn K (.ref C_InvalidTable) "__getattr__" = some none)
    (ch_InvalidTable : PySem.W.findIn K (.ref C_InvalidTable) "__class__" = some (some (.builtin "object.__class__")))
    (cm_InvalidTable : PySem.W.mroIn K C_InvalidTable (.type "object") = some true)
    (io_n : PySem.W.specialIn K (.builtin "object.__class__") "__get__" = some (some (.builtin "getset_descriptor.__get__")))
    (io_t : PySem.W.takesIn K (.builtin "object.__class__") = some true)
    (cf_InvalidTable_argument : PySem.W.findIn K (.ref C_InvalidTable) "argument" = some none)
    (cg_InvalidSchema : PySem.W.findIn K (.ref C_InvalidSchema) "__getattribute__" = some (some (.builtin "BaseException.__getattribute__")))
    (cn_InvalidSchema : PySem.W.findIn K (.ref C_InvalidSchema) "__getattr__" = some none)
    (ch_InvalidSchema : PySem.W.findIn K (.ref C_InvalidSchema) "__class__" = some (some (.builtin "object.__class__")))
    (cm_InvalidSchema : PySem.W.mroIn K C_InvalidSchema (.type "object") = some true)
    (ed_InvalidSchema : PySem.W.hasDictIn K C_InvalidSchema = true)
    (cg_InvalidRow : PySem.W.findIn K (.ref C_InvalidRow) "__getattribute__" = some (some (.builtin "BaseException.__getattribute__")))
    (cn_InvalidRow : PySem.W.findIn K (.ref C_InvalidRow) "__getattr__" = some none)
    (ch_InvalidRow : PySem.W.findIn K (.ref C_InvalidRow) "__class__" = some (some (.builtin "object.__class__")))
    (cm_InvalidRow : PySem.W.mroIn K C_InvalidRow (.type "object") = some true)
    (cf_InvalidRow_value : PySem.W.findIn K (.ref C_InvalidRow) "value" = some none)
    (cg_OtherSchema : PySem.W.findIn K (.ref C_OtherSchema) "__getattribute__" = some (some (.builtin "BaseException.__getattribute__")))
    (cn_OtherSchema : PySem.W.findIn K (.ref C_OtherSchema) "__getattr__" = some none)
    (ch_OtherSchema : PySem.W.findIn K (.ref C_OtherSchema) "__class__" = some (some (.builtin "object.__class__")))
    (cm_OtherSchema : PySem.W.mroIn K C_OtherSchema (.type "object") = some true)
    (ed_OtherSchema : PySem.W.hasDictIn K C_OtherSchema = true)
    (cg_InvalidRule : PySem.W.findIn K (.ref C_InvalidRule) "__getattribute__" = some (some (.builtin "BaseException.__getattribute__")))
    (cn_InvalidRule : PySem.W.findIn K (.ref C_InvalidRule) "__getattr__" = some none)
    (ch_InvalidRule : PySem.W.findIn K (.ref C_InvalidRule) "__class__" = some (some (.builtin "object.__class__")))
    (cm_InvalidRule : PySem.W.mroIn K C_InvalidRule (.type "object") = some true)
    (cf_InvalidRule_argument : PySem.W.findIn K (.ref C_InvalidRule) "argument" = some none)
    (cg_Misfit : PySem.W.findIn K (.ref C_Misfit) "__getattribute__" = some (some (.builtin "BaseException.__getattribute__")))
    (cn_Misfit : PySem.W.findIn K (.ref C_Misfit) "__getattr__" = some none)
    (ch_Misfit : PySem.W.findIn K (.ref C_Misfit) "__class__" = some (some (.builtin "object.__class__")))
    (cm_Misfit : PySem.W.mroIn K C_Misfit (.type "object") = some true)
    (cf_Misfit_index : PySem.W.findIn K (.ref C_Misfit) "index" = some none)
    (cg_Circle : PySem.W.findIn K (.ref C_Circle) "__getattribute__" = some (some (.builtin "BaseException.__getattribute__")))
    (cn_Circle : PySem.W.findIn K (.ref C_Circle) "__getattr__" = some none)
    (ch_Circle : PySem.W.findIn K (.ref C_Circle) "__class__" = some (some (.builtin "object.__class__")))
    (cm_Circle : PySem.W.mroIn K C_Circle (.type "object") = some true)
    (cf_Circle_value : PySem.W.findIn K (.ref C_Circle) "value" = some none)
    (cg_InvalidFact : PySem.W.findIn K (.ref C_InvalidFact) "__getattribute__" = some (some (.builtin "BaseException.__getattribute__")))
    (cn_InvalidFact : PySem.W.findIn K (.ref C_InvalidFact) "__getattr__" = some none)
    (ch_InvalidFact : PySem.W.findIn K (.ref C_InvalidFact) "__class__" = some (some (.builtin "object.__class__")))
    (cm_InvalidFact : PySem.W.mroIn K C_InvalidFact (.type "object") = some true)
    (cf_InvalidFact_index : PySem.W.findIn K (.ref C_InvalidFact) "index" = some none)
    (cg_InvalidChange : PySem.W.findIn K (.ref C_InvalidChange) "__getattribute__" = some (some (.builtin "BaseException.__getattribute__")))
    (cn_InvalidChange : PySem.W.findIn K (.ref C_InvalidChange) "__getattr__" = some none)
    (ch_InvalidChange : PySem.W.findIn K (.ref C_InvalidChange) "__class__" = some (some (.builtin "object.__class__")))
    (cm_InvalidChange : PySem.W.mroIn K C_InvalidChange (.type "object") = some true)
    (cf_InvalidChange_index : PySem.W.findIn K (.ref C_InvalidChange) "index" = some none)
    (cg_InvalidAnswer : PySem.W.findIn K (.ref C_InvalidAnswer) "__getattribute__" = some (some (.builtin "BaseException.__getattribute__")))
    (cn_InvalidAnswer : PySem.W.findIn K (.ref C_InvalidAnswer) "__getattr__" = some none)
    (ch_InvalidAnswer : PySem.W.findIn K (.ref C_InvalidAnswer) "__class__" = some (some (.builtin "object.__class__")))
    (cm_InvalidAnswer : PySem.W.mroIn K C_InvalidAnswer (.type "object") = some true)
    (cf_InvalidAnswer_value : PySem.W.findIn K (.ref C_InvalidAnswer) "value" = some none)
    (cg_InvalidTemplate : PySem.W.findIn K (.ref C_InvalidTemplate) "__getattribute__" = some (some (.builtin "BaseException.__getattribute__")))
    (cn_InvalidTemplate : PySem.W.findIn K (.ref C_InvalidTemplate) "__getattr__" = some none)
    (ch_InvalidTemplate : PySem.W.findIn K (.ref C_InvalidTemplate) "__class__" = some (some (.builtin "object.__class__")))
    (cm_InvalidTemplate : PySem.W.mroIn K C_InvalidTemplate (.type "object") = some true)
    (cf_InvalidTemplate_index : PySem.W.findIn K (.ref C_InvalidTemplate) "index" = some none)
    (cg_InvalidNames : PySem.W.findIn K (.ref C_InvalidNames) "__getattribute__" = some (some (.builtin "BaseException.__getattribute__")))
    (cn_InvalidNames : PySem.W.findIn K (.ref C_InvalidNames) "__getattr__" = some none)
    (ch_InvalidNames : PySem.W.findIn K (.ref C_InvalidNames) "__class__" = some (some (.builtin "object.__class__")))
    (cm_InvalidNames : PySem.W.mroIn K C_InvalidNames (.type "object") = some true)
    (cf_InvalidNames_value : PySem.W.findIn K (.ref C_InvalidNames) "value" = some none)
    (cg_InvalidPair : PySem.W.findIn K (.ref C_InvalidPair) "__getattribute__" = some (some (.builtin "BaseException.__getattribute__")))
    (cn_InvalidPair : PySem.W.findIn K (.ref C_InvalidPair) "__getattr__" = some none)
    (ch_InvalidPair : PySem.W.findIn K (.ref C_InvalidPair) "__class__" = some (some (.builtin "object.__class__")))
    (cm_InvalidPair : PySem.W.mroIn K C_InvalidPair (.type "object") = some true)
    (ed_InvalidPair : PySem.W.hasDictIn K C_InvalidPair = true)
    (cg_InvalidLimit : PySem.W.findIn K (.ref C_InvalidLimit) "__getattribute__" = some (some (.builtin "BaseException.__getattribute__")))
    (cn_InvalidLimit : PySem.W.findIn K (.ref C_InvalidLimit) "__getattr__" = some none)
    (ch_InvalidLimit : PySem.W.findIn K (.ref C_InvalidLimit) "__class__" = some (some (.builtin "object.__class__")))
    (cm_InvalidLimit : PySem.W.mroIn K C_InvalidLimit (.type "object") = some true)
    (cf_InvalidLimit_value : PySem.W.findIn K (.ref C_InvalidLimit) "value" = some none)
    (cg_Unreadable : PySem.W.findIn K (.ref C_Unreadable) "__getattribute__" = some (some (.builtin "BaseException.__getattribute__")))
    (cn_Unreadable : PySem.W.findIn K (.ref C_Unreadable) "__getattr__" = some none)
    (ch_Unreadable : PySem.W.findIn K (.ref C_Unreadable) "__class__" = some (some (.builtin "object.__class__")))
    (cm_Unreadable : PySem.W.mroIn K C_Unreadable (.type "object") = some true)
    (cf_Unreadable_index : PySem.W.findIn K (.ref C_Unreadable) "index" = some none)
    (cg_NoLine : PySem.W.findIn K (.ref C_NoLine) "__getattribute__" = some (some (.builtin "BaseException.__getattribute__")))
    (cn_NoLine : PySem.W.findIn K (.ref C_NoLine) "__getattr__" = some none)
    (ch_NoLine : PySem.W.findIn K (.ref C_NoLine) "__class__" = some (some (.builtin "object.__class__")))
    (cm_NoLine : PySem.W.mroIn K C_NoLine (.type "object") = some true)
    (ed_NoLine : PySem.W.hasDictIn K C_NoLine = true)
    (cg_UnknownTable : PySem.W.findIn K (.ref C_UnknownTable) "__getattribute__" = some (some (.builtin "BaseException.__getattribute__")))
    (cn_UnknownTable : PySem.W.findIn K (.ref C_UnknownTable) "__getattr__" = some none)
    (ch_UnknownTable : PySem.W.findIn K (.ref C_UnknownTable) "__class__" = some (some (.builtin "object.__class__")))
    (cm_UnknownTable : PySem.W.mroIn K C_UnknownTable (.type "object") = some true)
    (cf_UnknownTable_value : PySem.W.findIn K (.ref C_UnknownTable) "value" = some none)
    (cg_UnknownColumn : PySem.W.findIn K (.ref C_UnknownColumn) "__getattribute__" = some (some (.builtin "BaseException.__getattribute__")))
    (cn_UnknownColumn : PySem.W.findIn K (.ref C_UnknownColumn) "__getattr__" = some none)
    (ch_UnknownColumn : PySem.W.findIn K (.ref C_UnknownColumn) "__class__" = some (some (.builtin "object.__class__")))
    (cm_UnknownColumn : PySem.W.mroIn K C_UnknownColumn (.type "object") = some true)
    (cf_UnknownColumn_value : PySem.W.findIn K (.ref C_UnknownColumn) "value" = some none)
    (cg_OutOfRange : PySem.W.findIn K (.ref C_OutOfRange) "__getattribute__" = some (some (.builtin "BaseException.__getattribute__")))
    (cn_OutOfRange : PySem.W.findIn K (.ref C_OutOfRange) "__getattr__" = some none)
    (ch_OutOfRange : PySem.W.findIn K (.ref C_OutOfRange) "__class__" = some (some (.builtin "object.__class__")))
    (cm_OutOfRange : PySem.W.mroIn K C_OutOfRange (.type "object") = some true)
    (cf_OutOfRange_value : PySem.W.findIn K (.ref C_OutOfRange) "value" = some none)
    (cg_NoAnswer : PySem.W.findIn K (.ref C_NoAnswer) "__getattribute__" = some (some (.builtin "BaseException.__getattribute__")))
    (cn_NoAnswer : PySem.W.findIn K (.ref C_NoAnswer) "__getattr__" = some none)
    (ch_NoAnswer : PySem.W.findIn K (.ref C_NoAnswer) "__class__" = some (some (.builtin "object.__class__")))
    (cm_NoAnswer : PySem.W.mroIn K C_NoAnswer (.type "object") = some true)
    (cf_NoAnswer_value : PySem.W.findIn K (.ref C_NoAnswer) "value" = some none)
    (cg_NoCase : PySem.W.findIn K (.ref C_NoCase) "__getattribute__" = some (some (.builtin "BaseException.__getattribute__")))
    (cn_NoCase : PySem.W.findIn K (.ref C_NoCase) "__getattr__" = some none)
    (ch_NoCase : PySem.W.findIn K (.ref C_NoCase) "__class__" = some (some (.builtin "object.__class__")))
    (cm_NoCase : PySem.W.mroIn K C_NoCase (.type "object") = some true)
    (cf_NoCase_case : PySem.W.findIn K (.ref C_NoCase) "case" = some none)
    (cg_NoBranch : PySem.W.findIn K (.ref C_NoBranch) "__getattribute__" = some (some (.builtin "BaseException.__getattribute__")))
    (cn_NoBranch : PySem.W.findIn K (.ref C_NoBranch) "__getattr__" = some none)
    (ch_NoBranch : PySem.W.findIn K (.ref C_NoBranch) "__class__" = some (some (.builtin "object.__class__")))
    (cm_NoBranch : PySem.W.mroIn K C_NoBranch (.type "object") = some true)
    (cf_NoBranch_value : PySem.W.findIn K (.ref C_NoBranch) "value" = some none)
    (cg_Nothing : PySem.W.findIn K (.ref C_Nothing) "__getattribute__" = some (some (.builtin "BaseException.__getattribute__")))
    (cn_Nothing : PySem.W.findIn K (.ref C_Nothing) "__getattr__" = some none)
    (ch_Nothing : PySem.W.findIn K (.ref C_Nothing) "__class__" = some (some (.builtin "object.__class__")))
    (cm_Nothing : PySem.W.mroIn K C_Nothing (.type "object") = some true)
    (ed_Nothing : PySem.W.hasDictIn K C_Nothing = true)
    (cg_TooMany : PySem.W.findIn K (.ref C_TooMany) "__getattribute__" = some (some (.builtin "BaseException.__getattribute__")))
    (cn_TooMany : PySem.W.findIn K (.ref C_TooMany) "__getattr__" = some none)
    (ch_TooMany : PySem.W.findIn K (.ref C_TooMany) "__class__" = some (some (.builtin "object.__class__")))
    (cm_TooMany : PySem.W.mroIn K C_TooMany (.type "object") = some true)
    (cf_TooMany_limit : PySem.W.findIn K (.ref C_TooMany) "limit" = some none)
    (cg_TooDear : PySem.W.findIn K (.ref C_TooDear) "__getattribute__" = some (some (.builtin "BaseException.__getattribute__")))
    (cn_TooDear : PySem.W.findIn K (.ref C_TooDear) "__getattr__" = some none)
    (ch_TooDear : PySem.W.findIn K (.ref C_TooDear) "__class__" = some (some (.builtin "object.__class__")))
    (cm_TooDear : PySem.W.mroIn K C_TooDear (.type "object") = some true)
    (cf_TooDear_number : PySem.W.findIn K (.ref C_TooDear) "number" = some none)
    (cg_Broken : PySem.W.findIn K (.ref C_Broken) "__getattribute__" = some (some (.builtin "BaseException.__getattribute__")))
    (cn_Broken : PySem.W.findIn K (.ref C_Broken) "__getattr__" = some none)
    (ch_Broken : PySem.W.findIn K (.ref C_Broken) "__class__" = some (some (.builtin "object.__class__")))
    (cm_Broken : PySem.W.mroIn K C_Broken (.type "object") = some true)
    (cf_Broken_index : PySem.W.findIn K (.ref C_Broken) "index" = some none)
    (cf_Broken_spot : PySem.W.findIn K (.ref C_Broken) "spot" = some none)
    (cg_Unfit : PySem.W.findIn K (.ref C_Unfit) "__getattribute__" = some (some (.builtin "BaseException.__getattribute__")))
    (cn_Unfit : PySem.W.findIn K (.ref C_Unfit) "__getattr__" = some none)
    (ch_Unfit : PySem.W.findIn K (.ref C_Unfit) "__class__" = some (some (.builtin "object.__class__")))
    (cm_Unfit : PySem.W.mroIn K C_Unfit (.type "object") = some true)
    (cf_Unfit_index : PySem.W.findIn K (.ref C_Unfit) "index" = some none)
    (cg_NeverFits : PySem.W.findIn K (.ref C_NeverFits) "__getattribute__" = some (some (.builtin "BaseException.__getattribute__")))
    (cn_NeverFits : PySem.W.findIn K (.ref C_NeverFits) "__getattr__" = some none)
    (ch_NeverFits : PySem.W.findIn K (.ref C_NeverFits) "__class__" = some (some (.builtin "object.__class__")))
    (cm_NeverFits : PySem.W.mroIn K C_NeverFits (.type "object") = some true)
    (ed_NeverFits : PySem.W.hasDictIn K C_NeverFits = true)
    (cg_Refused : PySem.W.findIn K (.ref C_Refused) "__getattribute__" = some (some (.builtin "BaseException.__getattribute__")))
    (cn_Refused : PySem.W.findIn K (.ref C_Refused) "__getattr__" = some none)
    (ch_Refused : PySem.W.findIn K (.ref C_Refused) "__class__" = some (some (.builtin "object.__class__")))
    (cm_Refused : PySem.W.mroIn K C_Refused (.type "object") = some true)
    (cf_Refused_change : PySem.W.findIn K (.ref C_Refused) "change" = some none)
    (cg_LookFailed : PySem.W.findIn K (.ref C_LookFailed) "__getattribute__" = some (some (.builtin "BaseException.__getattribute__")))
    (cn_LookFailed : PySem.W.findIn K (.ref C_LookFailed) "__getattr__" = some none)
    (ch_LookFailed : PySem.W.findIn K (.ref C_LookFailed) "__class__" = some (some (.builtin "object.__class__")))
    (cm_LookFailed : PySem.W.mroIn K C_LookFailed (.type "object") = some true)
    (cf_LookFailed_number : PySem.W.findIn K (.ref C_LookFailed) "number" = some none)
    (cg_NoLook : PySem.W.findIn K (.ref C_NoLook) "__getattribute__" = some (some (.builtin "BaseException.__getattribute__")))
    (cn_NoLook : PySem.W.findIn K (.ref C_NoLook) "__getattr__" = some none)
    (ch_NoLook : PySem.W.findIn K (.ref C_NoLook) "__class__" = some (some (.builtin "object.__class__")))
    (cm_NoLook : PySem.W.mroIn K C_NoLook (.type "object") = some true)
    (cf_NoLook_value : PySem.W.findIn K (.ref C_NoLook) "value" = some none)
    : ∃ fd : FuncData, (∀ (s : Shared) (v : Value), BindsTo s fd ⟨[v], []⟩ [("_law_script", v)]) ∧ ∀ base : Heap, K.In base → base.Ns mainGlobals mg → (∃ o, base.get? sysModules = some o) → FnOkG l.prog w K mg base (L2.CX l.prog w) 6 fa fd ["_law_script"] (spLaw K) := by
  have e := hfa.symm.trans (PySem.W.mg_of X G h_law)
  cases e
  have F_InvalidTable___init__ : FunS K "__init__" "InvalidTable.__init__" s_InvalidTable___init__ a_InvalidTable___init__ _ cc_InvalidTable___init__ co_InvalidTable___init__ C_InvalidTable := ⟨⟨_, _, _, _, _, _, _, _, _, _, _, rfl, l_InvalidTable___init__, lc_InvalidTable___init__⟩, c_InvalidTable___init__, k_InvalidTable___init__⟩
  have B_InvalidTable___init__ := F_InvalidTable___init__.binds (ps := p_InvalidTable___init__) fun _ _ _ _ _ us hl => match us, hl with | [_, _], _ => rfl
  have kb_InvalidTable___init__ := FunS.kbn (ps := p_InvalidTable___init__) (n := 1) (ks := ["argument"]) F_InvalidTable___init__ fun _ _ _ _ _ us ws h1 h2 => match us, ws, h1, h2 with | [_], [_], _, _ => rfl
  have F_InvalidRow___init__ : FunS K "__init__" "InvalidRow.__init__" s_InvalidRow___init__ a_InvalidRow___init__ _ cc_InvalidRow___init__ co_InvalidRow___init__ C_InvalidRow := ⟨⟨_, _, _, _, _, _, _, _, _, _, _, rfl, l_InvalidRow___init__, lc_InvalidRow___init__⟩, c_InvalidRow___init__, k_InvalidRow___init__⟩
  have B_InvalidRow___init__ := F_InvalidRow___init__.binds (ps := p_InvalidRow___init__) fun _ _ _ _ _ us hl => match us, hl with | [_, _], _ => rfl
  have kb_InvalidRow___init__ := FunS.kbn (ps := p_InvalidRow___init__) (n := 1) (ks := ["value"]) F_InvalidRow___init__ fun _ _ _ _ _ us ws h1 h2 => match us, ws, h1, h2 with | [_], [_], _, _ => rfl
  have F_InvalidRule___init__ : FunS K "__init__" "InvalidRule.__init__" s_InvalidRule___init__ a_InvalidRule___init__ _ cc_InvalidRule___init__ co_InvalidRule___init__ C_InvalidRule := ⟨⟨_, _, _, _, _, _, _, _, _, _, _, rfl, l_InvalidRule___init__, lc_InvalidRule___init__⟩, c_InvalidRule___init__, k_InvalidRule___init__⟩
  have B_InvalidRule___init__ := F_InvalidRule___init__.binds (ps := p_InvalidRule___init__) fun _ _ _ _ _ us hl => match us, hl with | [_, _], _ => rfl
  have kb_InvalidRule___init__ := FunS.kbn (ps := p_InvalidRule___init__) (n := 1) (ks := ["argument"]) F_InvalidRule___init__ fun _ _ _ _ _ us ws h1 h2 => match us, ws, h1, h2 with | [_], [_], _, _ => rfl
  have F_Misfit___init__ : FunS K "__init__" "Misfit.__init__" s_Misfit___init__ a_Misfit___init__ _ cc_Misfit___init__ co_Misfit___init__ C_Misfit := ⟨⟨_, _, _, _, _, _, _, _, _, _, _, rfl, l_Misfit___init__, lc_Misfit___init__⟩, c_Misfit___init__, k_Misfit___init__⟩
  have B_Misfit___init__ := F_Misfit___init__.binds (ps := p_Misfit___init__) fun _ _ _ _ _ us hl => match us, hl with | [_, _], _ => rfl
  have kb_Misfit___init__ := FunS.kbn (ps := p_Misfit___init__) (n := 1) (ks := ["index"]) F_Misfit___init__ fun _ _ _ _ _ us ws h1 h2 => match us, ws, h1, h2 with | [_], [_], _, _ => rfl
  have F_Circle___init__ : FunS K "__init__" "Circle.__init__" s_Circle___init__ a_Circle___init__ _ cc_Circle___init__ co_Circle___init__ C_Circle := ⟨⟨_, _, _, _, _, _, _, _, _, _, _, rfl, l_Circle___init__, lc_Circle___init__⟩, c_Circle___init__, k_Circle___init__⟩
  have B_Circle___init__ := F_Circle___init__.binds (ps := p_Circle___init__) fun _ _ _ _ _ us hl => match us, hl with | [_, _], _ => rfl
  have kb_Circle___init__ := FunS.kbn (ps := p_Circle___init__) (n := 1) (ks := ["value"]) F_Circle___init__ fun _ _ _ _ _ us ws h1 h2 => match us, ws, h1, h2 with | [_], [_], _, _ => rfl
  have F_InvalidFact___init__ : FunS K "__init__" "InvalidFact.__init__" s_InvalidFact___init__ a_InvalidFact___init__ _ cc_InvalidFact___init__ co_InvalidFact___init__ C_InvalidFact := ⟨⟨_, _, _, _, _, _, _, _, _, _, _, rfl, l_InvalidFact___init__, lc_InvalidFact___init__⟩, c_InvalidFact___init__, k_InvalidFact___init__⟩
  have B_InvalidFact___init__ := F_InvalidFact___init__.binds (ps := p_InvalidFact___init__) fun _ _ _ _ _ us hl => match us, hl with | [_, _], _ => rfl
  have kb_InvalidFact___init__ := FunS.kbn (ps := p_InvalidFact___init__) (n := 1) (ks := ["index"]) F_InvalidFact___init__ fun _ _ _ _ _ us ws h1 h2 => match us, ws, h1, h2 with | [_], [_], _, _ => rfl
  have F_InvalidChange___init__ : FunS K "__init__" "InvalidChange.__init__" s_InvalidChange___init__ a_InvalidChange___init__ _ cc_InvalidChange___init__ co_InvalidChange___init__ C_InvalidChange := ⟨⟨_, _, _, _, _, _, _, _, _, _, _, rfl, l_InvalidChange___init__, lc_InvalidChange___init__⟩, c_InvalidChange___init__, k_InvalidChange___init__⟩
  have B_InvalidChange___init__ := F_InvalidChange___init__.binds (ps := p_InvalidChange___init__) fun _ _ _ _ _ us hl => match us, hl with | [_, _], _ => rfl
  have kb_InvalidChange___init__ := FunS.kbn (ps := p_InvalidChange___init__) (n := 1) (ks := ["index"]) F_InvalidChange___init__ fun _ _ _ _ _ us ws h1 h2 => match us, ws, h1, h2 with | [_], [_], _, _ => rfl
  have F_InvalidAnswer___init__ : FunS K "__init__" "InvalidAnswer.__init__" s_InvalidAnswer___init__ a_InvalidAnswer___init__ _ cc_InvalidAnswer___init__ co_InvalidAnswer___init__ C_InvalidAnswer := ⟨⟨_, _, _, _, _, _, _, _, _, _, _, rfl, l_InvalidAnswer___init__, lc_InvalidAnswer___init__⟩, c_InvalidAnswer___init__, k_InvalidAnswer___init__⟩
  have B_InvalidAnswer___init__ := F_InvalidAnswer___init__.binds (ps := p_InvalidAnswer___init__) fun _ _ _ _ _ us hl => match us, hl with | [_, _], _ => rfl
  have kb_InvalidAnswer___init__ := FunS.kbn (ps := p_InvalidAnswer___init__) (n := 1) (ks := ["value"]) F_InvalidAnswer___init__ fun _ _ _ _ _ us ws h1 h2 => match us, ws, h1, h2 with | [_], [_], _, _ => rfl
  have F_InvalidTemplate___init__ : FunS K "__init__" "InvalidTemplate.__init__" s_InvalidTemplate___init__ a_InvalidTemplate___init__ _ cc_InvalidTemplate___init__ co_InvalidTemplate___init__ C_InvalidTemplate := ⟨⟨_, _, _, _, _, _, _, _, _, _, _, rfl, l_InvalidTemplate___init__, lc_InvalidTemplate___init__⟩, c_InvalidTemplate___init__, k_InvalidTemplate___init__⟩
  have B_InvalidTemplate___init__ := F_InvalidTemplate___init__.binds (ps := p_InvalidTemplate___init__) fun _ _ _ _ _ us hl => match us, hl with | [_, _], _ => rfl
  have kb_InvalidTemplate___init__ := FunS.kbn (ps := p_InvalidTemplate___init__) (n := 1) (ks := ["index"]) F_InvalidTemplate___init__ fun _ _ _ _ _ us ws h1 h2 => match us, ws, h1, h2 with | [_], [_], _, _ => rfl
  have F_InvalidNames___init__ : FunS K "__init__" "InvalidNames.__init__" s_InvalidNames___init__ a_InvalidNames___init__ _ cc_InvalidNames___init__ co_InvalidNames___init__ C_InvalidNames := ⟨⟨_, _, _, _, _, _, _, _, _, _, _, rfl, l_InvalidNames___init__, lc_InvalidNames___init__⟩, c_InvalidNames___init__, k_InvalidNames___init__⟩
  have B_InvalidNames___init__ := F_InvalidNames___init__.binds (ps := p_InvalidNames___init__) fun _ _ _ _ _ us hl => match us, hl with | [_, _], _ => rfl
  have kb_InvalidNames___init__ := FunS.kbn (ps := p_InvalidNames___init__) (n := 1) (ks := ["value"]) F_InvalidNames___init__ fun _ _ _ _ _ us ws h1 h2 => match us, ws, h1, h2 with | [_], [_], _, _ => rfl
  have F_InvalidLimit___init__ : FunS K "__init__" "InvalidLimit.__init__" s_InvalidLimit___init__ a_InvalidLimit___init__ _ cc_InvalidLimit___init__ co_InvalidLimit___init__ C_InvalidLimit := ⟨⟨_, _, _, _, _, _, _, _, _, _, _, rfl, l_InvalidLimit___init__, lc_InvalidLimit___init__⟩, c_InvalidLimit___init__, k_InvalidLimit___init__⟩
  have B_InvalidLimit___init__ := F_InvalidLimit___init__.binds (ps := p_InvalidLimit___init__) fun _ _ _ _ _ us hl => match us, hl with | [_, _], _ => rfl
  have kb_InvalidLimit___init__ := FunS.kbn (ps := p_InvalidLimit___init__) (n := 1) (ks := ["value"]) F_InvalidLimit___init__ fun _ _ _ _ _ us ws h1 h2 => match us, ws, h1, h2 with | [_], [_], _, _ => rfl
  have F_Unreadable___init__ : FunS K "__init__" "Unreadable.__init__" s_Unreadable___init__ a_Unreadable___init__ _ cc_Unreadable___init__ co_Unreadable___init__ C_Unreadable := ⟨⟨_, _, _, _, _, _, _, _, _, _, _, rfl, l_Unreadable___init__, lc_Unreadable___init__⟩, c_Unreadable___init__, k_Unreadable___init__⟩
  have B_Unreadable___init__ := F_Unreadable___init__.binds (ps := p_Unreadable___init__) fun _ _ _ _ _ us hl => match us, hl with | [_, _], _ => rfl
  have kb_Unreadable___init__ := FunS.kbn (ps := p_Unreadable___init__) (n := 1) (ks := ["index"]) F_Unreadable___init__ fun _ _ _ _ _ us ws h1 h2 => match us, ws, h1, h2 with | [_], [_], _, _ => rfl
  have F_UnknownTable___init__ : FunS K "__init__" "UnknownTable.__init__" s_UnknownTable___init__ a_UnknownTable___init__ _ cc_UnknownTable___init__ co_UnknownTable___init__ C_UnknownTable := ⟨⟨_, _, _, _, _, _, _, _, _, _, _, rfl, l_UnknownTable___init__, lc_UnknownTable___init__⟩, c_UnknownTable___init__, k_UnknownTable___init__⟩
  have B_UnknownTable___init__ := F_UnknownTable___init__.binds (ps := p_UnknownTable___init__) fun _ _ _ _ _ us hl => match us, hl with | [_, _], _ => rfl
  have kb_UnknownTable___init__ := FunS.kbn (ps := p_UnknownTable___init__) (n := 1) (ks := ["value"]) F_UnknownTable___init__ fun _ _ _ _ _ us ws h1 h2 => match us, ws, h1, h2 with | [_], [_], _, _ => rfl
  have F_UnknownColumn___init__ : FunS K "__init__" "UnknownColumn.__init__" s_UnknownColumn___init__ a_UnknownColumn___init__ _ cc_UnknownColumn___init__ co_UnknownColumn___init__ C_UnknownColumn := ⟨⟨_, _, _, _, _, _, _, _, _, _, _, rfl, l_UnknownColumn___init__, lc_UnknownColumn___init__⟩, c_UnknownColumn___init__, k_UnknownColumn___init__⟩
  have B_UnknownColumn___init__ := F_UnknownColumn___init__.binds (ps := p_UnknownColumn___init__) fun _ _ _ _ _ us hl => match us, hl with | [_, _], _ => rfl
  have kb_UnknownColumn___init__ := FunS.kbn (ps := p_UnknownColumn___init__) (n := 1) (ks := ["value"]) F_UnknownColumn___init__ fun _ _ _ _ _ us ws h1 h2 => match us, ws, h1, h2 with | [_], [_], _, _ => rfl
  have F_OutOfRange___init__ : FunS K "__init__" "OutOfRange.__init__" s_OutOfRange___init__ a_OutOfRange___init__ _ cc_OutOfRange___init__ co_OutOfRange___init__ C_OutOfRange := ⟨⟨_, _, _, _, _, _, _, _, _, _, _, rfl, l_OutOfRange___init__, lc_OutOfRange___init__⟩, c_OutOfRange___init__, k_OutOfRange___init__⟩
  have B_OutOfRange___init__ := F_OutOfRange___init__.binds (ps := p_OutOfRange___init__) fun _ _ _ _ _ us hl => match us, hl with | [_, _], _ => rfl
  have kb_OutOfRange___init__ := FunS.kbn (ps := p_OutOfRange___init__) (n := 1) (ks := ["value"]) F_OutOfRange___init__ fun _ _ _ _ _ us ws h1 h2 => match us, ws, h1, h2 with | [_], [_], _, _ => rfl
  have F_NoAnswer___init__ : FunS K "__init__" "NoAnswer.__init__" s_NoAnswer___init__ a_NoAnswer___init__ _ cc_NoAnswer___init__ co_NoAnswer___init__ C_NoAnswer := ⟨⟨_, _, _, _, _, _, _, _, _, _, _, rfl, l_NoAnswer___init__, lc_NoAnswer___init__⟩, c_NoAnswer___init__, k_NoAnswer___init__⟩
  have B_NoAnswer___init__ := F_NoAnswer___init__.binds (ps := p_NoAnswer___init__) fun _ _ _ _ _ us hl => match us, hl with | [_, _], _ => rfl
  have kb_NoAnswer___init__ := FunS.kbn (ps := p_NoAnswer___init__) (n := 1) (ks := ["value"]) F_NoAnswer___init__ fun _ _ _ _ _ us ws h1 h2 => match us, ws, h1, h2 with | [_], [_], _, _ => rfl
  have F_NoCase___init__ : FunS K "__init__" "NoCase.__init__" s_NoCase___init__ a_NoCase___init__ _ cc_NoCase___init__ co_NoCase___init__ C_NoCase := ⟨⟨_, _, _, _, _, _, _, _, _, _, _, rfl, l_NoCase___init__, lc_NoCase___init__⟩, c_NoCase___init__, k_NoCase___init__⟩
  have B_NoCase___init__ := F_NoCase___init__.binds (ps := p_NoCase___init__) fun _ _ _ _ _ us hl => match us, hl with | [_, _], _ => rfl
  have kb_NoCase___init__ := FunS.kbn (ps := p_NoCase___init__) (n := 1) (ks := ["case"]) F_NoCase___init__ fun _ _ _ _ _ us ws h1 h2 => match us, ws, h1, h2 with | [_], [_], _, _ => rfl
  have F_NoBranch___init__ : FunS K "__init__" "NoBranch.__init__" s_NoBranch___init__ a_NoBranch___init__ _ cc_NoBranch___init__ co_NoBranch___init__ C_NoBranch := ⟨⟨_, _, _, _, _, _, _, _, _, _, _, rfl, l_NoBranch___init__, lc_NoBranch___init__⟩, c_NoBranch___init__, k_NoBranch___init__⟩
  have B_NoBranch___init__ := F_NoBranch___init__.binds (ps := p_NoBranch___init__) fun _ _ _ _ _ us hl => match us, hl with | [_, _], _ => rfl
  have kb_NoBranch___init__ := FunS.kbn (ps := p_NoBranch___init__) (n := 1) (ks := ["value"]) F_NoBranch___init__ fun _ _ _ _ _ us ws h1 h2 => match us, ws, h1, h2 with | [_], [_], _, _ => rfl
  have F_TooMany___init__ : FunS K "__init__" "TooMany.__init__" s_TooMany___init__ a_TooMany___init__ _ cc_TooMany___init__ co_TooMany___init__ C_TooMany := ⟨⟨_, _, _, _, _, _, _, _, _, _, _, rfl, l_TooMany___init__, lc_TooMany___init__⟩, c_TooMany___init__, k_TooMany___init__⟩
  have B_TooMany___init__ := F_TooMany___init__.binds (ps := p_TooMany___init__) fun _ _ _ _ _ us hl => match us, hl with | [_, _], _ => rfl
  have kb_TooMany___init__ := FunS.kbn (ps := p_TooMany___init__) (n := 1) (ks := ["limit"]) F_TooMany___init__ fun _ _ _ _ _ us ws h1 h2 => match us, ws, h1, h2 with | [_], [_], _, _ => rfl
  have F_TooDear___init__ : FunS K "__init__" "TooDear.__init__" s_TooDear___init__ a_TooDear___init__ _ cc_TooDear___init__ co_TooDear___init__ C_TooDear := ⟨⟨_, _, _, _, _, _, _, _, _, _, _, rfl, l_TooDear___init__, lc_TooDear___init__⟩, c_TooDear___init__, k_TooDear___init__⟩
  have B_TooDear___init__ := F_TooDear___init__.binds (ps := p_TooDear___init__) fun _ _ _ _ _ us hl => match us, hl with | [_, _], _ => rfl
  have kb_TooDear___init__ := FunS.kbn (ps := p_TooDear___init__) (n := 1) (ks := ["number"]) F_TooDear___init__ fun _ _ _ _ _ us ws h1 h2 => match us, ws, h1, h2 with | [_], [_], _, _ => rfl
  have F_Broken___init__ : FunS K "__init__" "Broken.__init__" s_Broken___init__ a_Broken___init__ _ cc_Broken___init__ co_Broken___init__ C_Broken := ⟨⟨_, _, _, _, _, _, _, _, _, _, _, rfl, l_Broken___init__, lc_Broken___init__⟩, c_Broken___init__, k_Broken___init__⟩
  have B_Broken___init__ := F_Broken___init__.binds (ps := p_Broken___init__) fun _ _ _ _ _ us hl => match us, hl with | [_, _, _], _ => rfl
  have kb_Broken___init__ := FunS.kbnR (ps := p_Broken___init__) (n := 1) (ks := ["spot", "index"]) F_Broken___init__ fun _ _ _ _ _ us ws h1 h2 => match us, ws, h1, h2 with | [_], [_, _], _, _ => rfl
  have F_Unfit___init__ : FunS K "__init__" "Unfit.__init__" s_Unfit___init__ a_Unfit___init__ _ cc_Unfit___init__ co_Unfit___init__ C_Unfit := ⟨⟨_, _, _, _, _, _, _, _, _, _, _, rfl, l_Unfit___init__, lc_Unfit___init__⟩, c_Unfit___init__, k_Unfit___init__⟩
  have B_Unfit___init__ := F_Unfit___init__.binds (ps := p_Unfit___init__) fun _ _ _ _ _ us hl => match us, hl with | [_, _], _ => rfl
  have kb_Unfit___init__ := FunS.kbn (ps := p_Unfit___init__) (n := 1) (ks := ["index"]) F_Unfit___init__ fun _ _ _ _ _ us ws h1 h2 => match us, ws, h1, h2 with | [_], [_], _, _ => rfl
  have F_Refused___init__ : FunS K "__init__" "Refused.__init__" s_Refused___init__ a_Refused___init__ _ cc_Refused___init__ co_Refused___init__ C_Refused := ⟨⟨_, _, _, _, _, _, _, _, _, _, _, rfl, l_Refused___init__, lc_Refused___init__⟩, c_Refused___init__, k_Refused___init__⟩
  have B_Refused___init__ := F_Refused___init__.binds (ps := p_Refused___init__) fun _ _ _ _ _ us hl => match us, hl with | [_, _], _ => rfl
  have kb_Refused___init__ := FunS.kbn (ps := p_Refused___init__) (n := 1) (ks := ["change"]) F_Refused___init__ fun _ _ _ _ _ us ws h1 h2 => match us, ws, h1, h2 with | [_], [_], _, _ => rfl
  have F_LookFailed___init__ : FunS K "__init__" "LookFailed.__init__" s_LookFailed___init__ a_LookFailed___init__ _ cc_LookFailed___init__ co_LookFailed___init__ C_LookFailed := ⟨⟨_, _, _, _, _, _, _, _, _, _, _, rfl, l_LookFailed___init__, lc_LookFailed___init__⟩, c_LookFailed___init__, k_LookFailed___init__⟩
  have B_LookFailed___init__ := F_LookFailed___init__.binds (ps := p_LookFailed___init__) fun _ _ _ _ _ us hl => match us, hl with | [_, _], _ => rfl
  have kb_LookFailed___init__ := FunS.kbn (ps := p_LookFailed___init__) (n := 1) (ks := ["number"]) F_LookFailed___init__ fun _ _ _ _ _ us ws h1 h2 => match us, ws, h1, h2 with | [_], [_], _, _ => rfl
  have F_NoLook___init__ : FunS K "__init__" "NoLook.__init__" s_NoLook___init__ a_NoLook___init__ _ cc_NoLook___init__ co_NoLook___init__ C_NoLook := ⟨⟨_, _, _, _, _, _, _, _, _, _, _, rfl, l_NoLook___init__, lc_NoLook___init__⟩, c_NoLook___init__, k_NoLook___init__⟩
  have B_NoLook___init__ := F_NoLook___init__.binds (ps := p_NoLook___init__) fun _ _ _ _ _ us hl => match us, hl with | [_, _], _ => rfl
  have kb_NoLook___init__ := FunS.kbn (ps := p_NoLook___init__) (n := 1) (ks := ["value"]) F_NoLook___init__ fun _ _ _ _ _ us ws h1 h2 => match us, ws, h1, h2 with | [_], [_], _, _ => rfl
  have F__law_pen := fun_mk (st := s__law_pen) l__law_pen c__law_pen k__law_pen
  have B__law_pen := F__law_pen.binds (ps := p__law_pen) fun _ _ _ _ _ _ us hl => match us, hl with | [_], _ => rfl
  have F__law_draw := fun_mk (st := s__law_draw) l__law_draw c__law_draw k__law_draw
  have B__law_draw := F__law_draw.binds (ps := p__law_draw) fun _ _ _ _ _ _ us hl => match us, hl with | [_, _], _ => rfl
  have F__law_pick := fun_mk (st := s__law_pick) l__law_pick c__law_pick k__law_pick
  have B__law_pick := F__law_pick.binds (ps := p__law_pick) fun _ _ _ _ _ _ us hl => match us, hl with | [_, _], _ => rfl
  have F__law_any_value := fun_mk (st := s__law_any_value) l__law_any_value c__law_any_value k__law_any_value
  have B__law_any_value := F__law_any_value.binds (ps := p__law_any_value) fun _ _ _ _ _ _ us hl => match us, hl with | [_], _ => rfl
  have F__law_some_errors := fun_mk (st := s__law_some_errors) l__law_some_errors c__law_some_errors k__law_some_errors
  have B__law_some_errors := F__law_some_errors.binds (ps := p__law_some_errors) fun _ _ _ _ _ _ us hl => match us, hl with | [_], _ => rfl
  have F__law_other_errors := fun_mk (st := s__law_other_errors) l__law_other_errors c__law_other_errors k__law_other_errors
  have B__law_other_errors := F__law_other_errors.binds (ps := p__law_other_errors) fun _ _ _ _ _ _ us hl => match us, hl with | [_], _ => rfl
  have F__law_classes := fun_mk (st := s__law_classes) l__law_classes c__law_classes k__law_classes
  have B__law_classes := F__law_classes.binds (ps := p__law_classes) fun _ _ _ _ _ _ us hl => match us, hl with | [_], _ => rfl
  have F__law_sorts := fun_mk (st := s__law_sorts) l__law_sorts c__law_sorts k__law_sorts
  have B__law_sorts := F__law_sorts.binds (ps := p__law_sorts) fun _ _ _ _ _ _ us hl => match us, hl with | [_], _ => rfl
  have F_law := fun_mk (st := s_law) l_law c_law k_law
  have B_law := F_law.binds (ps := p_law) fun _ _ _ _ _ _ us hl => match us, hl with | [_], _ => rfl
  have fk : Fk K ⟨C_InvalidTable, C_InvalidSchema, C_InvalidRow, C_OtherSchema, C_InvalidRule, C_Misfit, C_Circle, C_InvalidFact, C_InvalidChange, C_InvalidAnswer, C_InvalidTemplate, C_InvalidNames, C_InvalidPair, C_InvalidLimit, C_Unreadable, C_NoLine, C_UnknownTable, C_UnknownColumn, C_OutOfRange, C_NoAnswer, C_NoCase, C_NoBranch, C_Nothing, C_TooMany, C_TooDear, C_Broken, C_Unfit, C_NeverFits, C_Refused, C_LookFailed, C_NoLook, 0⟩ := ⟨kM, kB, kD, ⟨⟨cg_InvalidTable, cn_InvalidTable, eb_InvalidTable, ed_InvalidTable⟩, ⟨cg_InvalidTable, cn_InvalidTable, eb_InvalidTable, ed_InvalidTable, ch_InvalidTable, io_n, io_t, cm_InvalidTable⟩, all1 cf_InvalidTable_argument⟩, ⟨⟨cg_InvalidSchema, cn_InvalidSchema, eb_InvalidSchema, ed_InvalidSchema⟩, ⟨cg_InvalidSchema, cn_InvalidSchema, eb_InvalidSchema, ed_InvalidSchema, ch_InvalidSchema, io_n, io_t, cm_InvalidSchema⟩, (fun _ h => nomatch h)⟩, ⟨⟨cg_InvalidRow, cn_InvalidRow, eb_InvalidRow, ed_InvalidRow⟩, ⟨cg_InvalidRow, cn_InvalidRow, eb_InvalidRow, ed_InvalidRow, ch_InvalidRow, io_n, io_t, cm_InvalidRow⟩, all1 cf_InvalidRow_value⟩, ⟨⟨cg_OtherSchema, cn_OtherSchema, eb_OtherSchema, ed_OtherSchema⟩, ⟨cg_OtherSchema, cn_OtherSchema, eb_OtherSchema, ed_OtherSchema, ch_OtherSchema, io_n, io_t, cm_OtherSchema⟩, (fun _ h => nomatch h)⟩, ⟨⟨cg_InvalidRule, cn_InvalidRule, eb_InvalidRule, ed_InvalidRule⟩, ⟨cg_InvalidRule, cn_InvalidRule, eb_InvalidRule, ed_InvalidRule, ch_InvalidRule, io_n, io_t, cm_InvalidRule⟩, all1 cf_InvalidRule_argument⟩, ⟨⟨cg_Misfit, cn_Misfit, eb_Misfit, ed_Misfit⟩, ⟨cg_Misfit, cn_Misfit, eb_Misfit, ed_Misfit, ch_Misfit, io_n, io_t, cm_Misfit⟩, all1 cf_Misfit_index⟩, ⟨⟨cg_Circle, cn_Circle, eb_Circle, ed_Circle⟩, ⟨cg_Circle, cn_Circle, eb_Circle, ed_Circle, ch_Circle, io_n, io_t, cm_Circle⟩, all1 cf_Circle_value⟩, ⟨⟨cg_InvalidFact, cn_InvalidFact, eb_InvalidFact, ed_InvalidFact⟩, ⟨cg_InvalidFact, cn_InvalidFact, eb_InvalidFact, ed_InvalidFact, ch_InvalidFact, io_n, io_t, cm_InvalidFact⟩, all1 cf_InvalidFact_index⟩, ⟨⟨cg_InvalidChange, cn_InvalidChange, eb_InvalidChange, ed_InvalidChange⟩, ⟨cg_InvalidChange, cn_InvalidChange, eb_InvalidChange, ed_InvalidChange, ch_InvalidChange, io_n, io_t, cm_InvalidChange⟩, all1 cf_InvalidChange_index⟩, ⟨⟨cg_InvalidAnswer, cn_InvalidAnswer, eb_InvalidAnswer, ed_InvalidAnswer⟩, ⟨cg_InvalidAnswer, cn_InvalidAnswer, eb_InvalidAnswer, ed_InvalidAnswer, ch_InvalidAnswer, io_n, io_t, cm_InvalidAnswer⟩, all1 cf_InvalidAnswer_value⟩, ⟨⟨cg_InvalidTemplate, cn_InvalidTemplate, eb_InvalidTemplate, ed_InvalidTemplate⟩, ⟨cg_InvalidTemplate, cn_InvalidTemplate, eb_InvalidTemplate, ed_InvalidTemplate, ch_InvalidTemplate, io_n, io_t, cm_InvalidTemplate⟩, all1 cf_InvalidTemplate_index⟩, ⟨⟨cg_InvalidNames, cn_InvalidNames, eb_InvalidNames, ed_InvalidNames⟩, ⟨cg_InvalidNames, cn_InvalidNames, eb_InvalidNames, ed_InvalidNames, ch_InvalidNames, io_n, io_t, cm_InvalidNames⟩, all1 cf_InvalidNames_value⟩, ⟨⟨cg_InvalidPair, cn_InvalidPair, eb_InvalidPair, ed_InvalidPair⟩, ⟨cg_InvalidPair, cn_InvalidPair, eb_InvalidPair, ed_InvalidPair, ch_InvalidPair, io_n, io_t, cm_InvalidPair⟩, (fun _ h => nomatch h)⟩, ⟨⟨cg_InvalidLimit, cn_InvalidLimit, eb_InvalidLimit, ed_InvalidLimit⟩, ⟨cg_InvalidLimit, cn_InvalidLimit, eb_InvalidLimit, ed_InvalidLimit, ch_InvalidLimit, io_n, io_t, cm_InvalidLimit⟩, all1 cf_InvalidLimit_value⟩, ⟨⟨cg_Unreadable, cn_Unreadable, eb_Unreadable, ed_Unreadable⟩, ⟨cg_Unreadable, cn_Unreadable, eb_Unreadable, ed_Unreadable, ch_Unreadable, io_n, io_t, cm_Unreadable⟩, all1 cf_Unreadable_index⟩, ⟨⟨cg_NoLine, cn_NoLine, eb_NoLine, ed_NoLine⟩, ⟨cg_NoLine, cn_NoLine, eb_NoLine, ed_NoLine, ch_NoLine, io_n, io_t, cm_NoLine⟩, (fun _ h => nomatch h)⟩, ⟨⟨cg_UnknownTable, cn_UnknownTable, eb_UnknownTable, ed_UnknownTable⟩, ⟨cg_UnknownTable, cn_UnknownTable, eb_UnknownTable, ed_UnknownTable, ch_UnknownTable, io_n, io_t, cm_UnknownTable⟩, all1 cf_UnknownTable_value⟩, ⟨⟨cg_UnknownColumn, cn_UnknownColumn, eb_UnknownColumn, ed_UnknownColumn⟩, ⟨cg_UnknownColumn, cn_UnknownColumn, eb_UnknownColumn, ed_UnknownColumn, ch_UnknownColumn, io_n, io_t, cm_UnknownColumn⟩, all1 cf_UnknownColumn_value⟩, ⟨⟨cg_OutOfRange, cn_OutOfRange, eb_OutOfRange, ed_OutOfRange⟩, ⟨cg_OutOfRange, cn_OutOfRange, eb_OutOfRange, ed_OutOfRange, ch_OutOfRange, io_n, io_t, cm_OutOfRange⟩, all1 cf_OutOfRange_value⟩, ⟨⟨cg_NoAnswer, cn_NoAnswer, eb_NoAnswer, ed_NoAnswer⟩, ⟨cg_NoAnswer, cn_NoAnswer, eb_NoAnswer, ed_NoAnswer, ch_NoAnswer, io_n, io_t, cm_NoAnswer⟩, all1 cf_NoAnswer_value⟩, ⟨⟨cg_NoCase, cn_NoCase, eb_NoCase, ed_NoCase⟩, ⟨cg_NoCase, cn_NoCase, eb_NoCase, ed_NoCase, ch_NoCase, io_n, io_t, cm_NoCase⟩, all1 cf_NoCase_case⟩, ⟨⟨cg_NoBranch, cn_NoBranch, eb_NoBranch, ed_NoBranch⟩, ⟨cg_NoBranch, cn_NoBranch, eb_NoBranch, ed_NoBranch, ch_NoBranch, io_n, io_t, cm_NoBranch⟩, all1 cf_NoBranch_value⟩, ⟨⟨cg_Nothing, cn_Nothing, eb_Nothing, ed_Nothing⟩, ⟨cg_Nothing, cn_Nothing, eb_Nothing, ed_Nothing, ch_Nothing, io_n, io_t, cm_Nothing⟩, (fun _ h => nomatch h)⟩, ⟨⟨cg_TooMany, cn_TooMany, eb_TooMany, ed_TooMany⟩, ⟨cg_TooMany, cn_TooMany, eb_TooMany, ed_TooMany, ch_TooMany, io_n, io_t, cm_TooMany⟩, all1 cf_TooMany_limit⟩, ⟨⟨cg_TooDear, cn_TooDear, eb_TooDear, ed_TooDear⟩, ⟨cg_TooDear, cn_TooDear, eb_TooDear, ed_TooDear, ch_TooDear, io_n, io_t, cm_TooDear⟩, all1 cf_TooDear_number⟩, ⟨⟨cg_Broken, cn_Broken, eb_Broken, ed_Broken⟩, ⟨cg_Broken, cn_Broken, eb_Broken, ed_Broken, ch_Broken, io_n, io_t, cm_Broken⟩, all2 cf_Broken_index cf_Broken_spot⟩, ⟨⟨cg_Unfit, cn_Unfit, eb_Unfit, ed_Unfit⟩, ⟨cg_Unfit, cn_Unfit, eb_Unfit, ed_Unfit, ch_Unfit, io_n, io_t, cm_Unfit⟩, all1 cf_Unfit_index⟩, ⟨⟨cg_NeverFits, cn_NeverFits, eb_NeverFits, ed_NeverFits⟩, ⟨cg_NeverFits, cn_NeverFits, eb_NeverFits, ed_NeverFits, ch_NeverFits, io_n, io_t, cm_NeverFits⟩, (fun _ h => nomatch h)⟩, ⟨⟨cg_Refused, cn_Refused, eb_Refused, ed_Refused⟩, ⟨cg_Refused, cn_Refused, eb_Refused, ed_Refused, ch_Refused, io_n, io_t, cm_Refused⟩, all1 cf_Refused_change⟩, ⟨⟨cg_LookFailed, cn_LookFailed, eb_LookFailed, ed_LookFailed⟩, ⟨cg_LookFailed, cn_LookFailed, eb_LookFailed, ed_LookFailed, ch_LookFailed, io_n, io_t, cm_LookFailed⟩, all1 cf_LookFailed_number⟩, ⟨⟨cg_NoLook, cn_NoLook, eb_NoLook, ed_NoLook⟩, ⟨cg_NoLook, cn_NoLook, eb_NoLook, ed_NoLook, ch_NoLook, io_n, io_t, cm_NoLook⟩, all1 cf_NoLook_value⟩⟩
  let A : All l.prog K mg ⟨C_InvalidTable, C_InvalidSchema, C_InvalidRow, C_OtherSchema, C_InvalidRule, C_Misfit, C_Circle, C_InvalidFact, C_InvalidChange, C_InvalidAnswer, C_InvalidTemplate, C_InvalidNames, C_InvalidPair, C_InvalidLimit, C_Unreadable, C_NoLine, C_UnknownTable, C_UnknownColumn, C_OutOfRange, C_NoAnswer, C_NoCase, C_NoBranch, C_Nothing, C_TooMany, C_TooDear, C_Broken, C_Unfit, C_NeverFits, C_Refused, C_LookFailed, C_NoLook, 0⟩ := ⟨fk, _, _, _, _, F_InvalidTable___init__, ⟨⟨bValue, ei_InvalidTable, eo_InvalidTable, ed_InvalidTable, esa_InvalidTable, eb_InvalidTable, es_InvalidTable, et_InvalidTable, kc_InvalidTable⟩, h_InvalidTable___init__, if_InvalidTable___init__, B_InvalidTable___init__, PySem.W.mg_of X G aC_InvalidTable, ⟨⟨_, _, _, _, _, _, ca_InvalidTable___init__, cb_InvalidTable___init__, ce_InvalidTable___init__⟩, tp_InvalidTable___init__, PySem.W.mg_none_of X G b_super, su_InvalidTable___init__, op_InvalidTable___init__, me_InvalidTable___init__⟩, all1 tk_InvalidTable_argument⟩, kb_InvalidTable___init__, _, _, _, _, F_InvalidRow___init__, ⟨⟨bValue, ei_InvalidRow, eo_InvalidRow, ed_InvalidRow, esa_InvalidRow, eb_InvalidRow, es_InvalidRow, et_InvalidRow, kc_InvalidRow⟩, h_InvalidRow___init__, if_InvalidRow___init__, B_InvalidRow___init__, PySem.W.mg_of X G aC_InvalidRow, ⟨⟨_, _, _, _, _, _, ca_InvalidRow___init__, cb_InvalidRow___init__, ce_InvalidRow___init__⟩, tp_InvalidRow___init__, PySem.W.mg_none_of X G b_super, su_InvalidRow___init__, op_InvalidRow___init__, me_InvalidRow___init__⟩, all1 tk_InvalidRow_value⟩, kb_InvalidRow___init__, _, _, _, _, F_InvalidRule___init__, ⟨⟨bValue, ei_InvalidRule, eo_InvalidRule, ed_InvalidRule, esa_InvalidRule, eb_InvalidRule, es_InvalidRule, et_InvalidRule, kc_InvalidRule⟩, h_InvalidRule___init__, if_InvalidRule___init__, B_InvalidRule___init__, PySem.W.mg_of X G aC_InvalidRule, ⟨⟨_, _, _, _, _, _, ca_InvalidRule___init__, cb_InvalidRule___init__, ce_InvalidRule___init__⟩, tp_InvalidRule___init__, PySem.W.mg_none_of X G b_super, su_InvalidRule___init__, op_InvalidRule___init__, me_InvalidRule___init__⟩, all1 tk_InvalidRule_argument⟩, kb_InvalidRule___init__, _, _, _, _, F_Misfit___init__, ⟨⟨bValue, ei_Misfit, eo_Misfit, ed_Misfit, esa_Misfit, eb_Misfit, es_Misfit, et_Misfit, kc_Misfit⟩, h_Misfit___init__, if_Misfit___init__, B_Misfit___init__, PySem.W.mg_of X G aC_Misfit, ⟨⟨_, _, _, _, _, _, ca_Misfit___init__, cb_Misfit___init__, ce_Misfit___init__⟩, tp_Misfit___init__, PySem.W.mg_none_of X G b_super, su_Misfit___init__, op_Misfit___init__, me_Misfit___init__⟩, all1 tk_Misfit_index⟩, kb_Misfit___init__, _, _, _, _, F_Circle___init__, ⟨⟨bValue, ei_Circle, eo_Circle, ed_Circle, esa_Circle, eb_Circle, es_Circle, et_Circle, kc_Circle⟩, h_Circle___init__, if_Circle___init__, B_Circle___init__, PySem.W.mg_of X G aC_Circle, ⟨⟨_, _, _, _, _, _, ca_Circle___init__, cb_Circle___init__, ce_Circle___init__⟩, tp_Circle___init__, PySem.W.mg_none_of X G b_super, su_Circle___init__, op_Circle___init__, me_Circle___init__⟩, all1 tk_Circle_value⟩, kb_Circle___init__, _, _, _, _, F_InvalidFact___init__, ⟨⟨bValue, ei_InvalidFact, eo_InvalidFact, ed_InvalidFact, esa_InvalidFact, eb_InvalidFact, es_InvalidFact, et_InvalidFact, kc_InvalidFact⟩, h_InvalidFact___init__, if_InvalidFact___init__, B_InvalidFact___init__, PySem.W.mg_of X G aC_InvalidFact, ⟨⟨_, _, _, _, _, _, ca_InvalidFact___init__, cb_InvalidFact___init__, ce_InvalidFact___init__⟩, tp_InvalidFact___init__, PySem.W.mg_none_of X G b_super, su_InvalidFact___init__, op_InvalidFact___init__, me_InvalidFact___init__⟩, all1 tk_InvalidFact_index⟩, kb_InvalidFact___init__, _, _, _, _, F_InvalidChange___init__, ⟨⟨bValue, ei_InvalidChange, eo_InvalidChange, ed_InvalidChange, esa_InvalidChange, eb_InvalidChange, es_InvalidChange, et_InvalidChange, kc_InvalidChange⟩, h_InvalidChange___init__, if_InvalidChange___init__, B_InvalidChange___init__, PySem.W.mg_of X G aC_InvalidChange, ⟨⟨_, _, _, _, _, _, ca_InvalidChange___init__, cb_InvalidChange___init__, ce_InvalidChange___init__⟩, tp_InvalidChange___init__, PySem.W.mg_none_of X G b_super, su_InvalidChange___init__, op_InvalidChange___init__, me_InvalidChange___init__⟩, all1 tk_InvalidChange_index⟩, kb_InvalidChange___init__, _, _, _, _, F_InvalidAnswer___init__, ⟨⟨bValue, ei_InvalidAnswer, eo_InvalidAnswer, ed_InvalidAnswer, esa_InvalidAnswer, eb_InvalidAnswer, es_InvalidAnswer, et_InvalidAnswer, kc_InvalidAnswer⟩, h_InvalidAnswer___init__, if_InvalidAnswer___init__, B_InvalidAnswer___init__, PySem.W.mg_of X G aC_InvalidAnswer, ⟨⟨_, _, _, _, _, _, ca_InvalidAnswer___init__, cb_InvalidAnswer___init__, ce_InvalidAnswer___init__⟩, tp_InvalidAnswer___init__, PySem.W.mg_none_of X G b_super, su_InvalidAnswer___init__, op_InvalidAnswer___init__, me_InvalidAnswer___init__⟩, all1 tk_InvalidAnswer_value⟩, kb_InvalidAnswer___init__, _, _, _, _, F_InvalidTemplate___init__, ⟨⟨bValue, ei_InvalidTemplate, eo_InvalidTemplate, ed_InvalidTemplate, esa_InvalidTemplate, eb_InvalidTemplate, es_InvalidTemplate, et_InvalidTemplate, kc_InvalidTemplate⟩, h_InvalidTemplate___init__, if_InvalidTemplate___init__, B_InvalidTemplate___init__, PySem.W.mg_of X G aC_InvalidTemplate, ⟨⟨_, _, _, _, _, _, ca_InvalidTemplate___init__, cb_InvalidTemplate___init__, ce_InvalidTemplate___init__⟩, tp_InvalidTemplate___init__, PySem.W.mg_none_of X G b_super, su_InvalidTemplate___init__, op_InvalidTemplate___init__, me_InvalidTemplate___init__⟩, all1 tk_InvalidTemplate_index⟩, kb_InvalidTemplate___init__, _, _, _, _, F_InvalidNames___init__, ⟨⟨bValue, ei_InvalidNames, eo_InvalidNames, ed_InvalidNames, esa_InvalidNames, eb_InvalidNames, es_InvalidNames, et_InvalidNames, kc_InvalidNames⟩, h_InvalidNames___init__, if_InvalidNames___init__, B_InvalidNames___init__, PySem.W.mg_of X G aC_InvalidNames, ⟨⟨_, _, _, _, _, _, ca_InvalidNames___init__, cb_InvalidNames___init__, ce_InvalidNames___init__⟩, tp_InvalidNames___init__, PySem.W.mg_none_of X G b_super, su_InvalidNames___init__, op_InvalidNames___init__, me_InvalidNames___init__⟩, all1 tk_InvalidNames_value⟩, kb_InvalidNames___init__, _, _, _, _, F_InvalidLimit___init__, ⟨⟨bValue, ei_InvalidLimit, eo_InvalidLimit, ed_InvalidLimit, esa_InvalidLimit, eb_InvalidLimit, es_InvalidLimit, et_InvalidLimit, kc_InvalidLimit⟩, h_InvalidLimit___init__, if_InvalidLimit___init__, B_InvalidLimit___init__, PySem.W.mg_of X G aC_InvalidLimit, ⟨⟨_, _, _, _, _, _, ca_InvalidLimit___init__, cb_InvalidLimit___init__, ce_InvalidLimit___init__⟩, tp_InvalidLimit___init__, PySem.W.mg_none_of X G b_super, su_InvalidLimit___init__, op_InvalidLimit___init__, me_InvalidLimit___init__⟩, all1 tk_InvalidLimit_value⟩, kb_InvalidLimit___init__, _, _, _, _, F_Unreadable___init__, ⟨⟨bValue, ei_Unreadable, eo_Unreadable, ed_Unreadable, esa_Unreadable, eb_Unreadable, es_Unreadable, et_Unreadable, kc_Unreadable⟩, h_Unreadable___init__, if_Unreadable___init__, B_Unreadable___init__, PySem.W.mg_of X G aC_Unreadable, ⟨⟨_, _, _, _, _, _, ca_Unreadable___init__, cb_Unreadable___init__, ce_Unreadable___init__⟩, tp_Unreadable___init__, PySem.W.mg_none_of X G b_super, su_Unreadable___init__, op_Unreadable___init__, me_Unreadable___init__⟩, all1 tk_Unreadable_index⟩, kb_Unreadable___init__, _, _, _, _, F_UnknownTable___init__, ⟨⟨bLookup, ei_UnknownTable, eo_UnknownTable, ed_UnknownTable, esa_UnknownTable, eb_UnknownTable, es_UnknownTable, et_UnknownTable, kc_UnknownTable⟩, h_UnknownTable___init__, if_UnknownTable___init__, B_UnknownTable___init__, PySem.W.mg_of X G aC_UnknownTable, ⟨⟨_, _, _, _, _, _, ca_UnknownTable___init__, cb_UnknownTable___init__, ce_UnknownTable___init__⟩, tp_UnknownTable___init__, PySem.W.mg_none_of X G b_super, su_UnknownTable___init__, op_UnknownTable___init__, me_UnknownTable___init__⟩, all1 tk_UnknownTable_value⟩, kb_UnknownTable___init__, _, _, _, _, F_UnknownColumn___init__, ⟨⟨bLookup, ei_UnknownColumn, eo_UnknownColumn, ed_UnknownColumn, esa_UnknownColumn, eb_UnknownColumn, es_UnknownColumn, et_UnknownColumn, kc_UnknownColumn⟩, h_UnknownColumn___init__, if_UnknownColumn___init__, B_UnknownColumn___init__, PySem.W.mg_of X G aC_UnknownColumn, ⟨⟨_, _, _, _, _, _, ca_UnknownColumn___init__, cb_UnknownColumn___init__, ce_UnknownColumn___init__⟩, tp_UnknownColumn___init__, PySem.W.mg_none_of X G b_super, su_UnknownColumn___init__, op_UnknownColumn___init__, me_UnknownColumn___init__⟩, all1 tk_UnknownColumn_value⟩, kb_UnknownColumn___init__, _, _, _, _, F_OutOfRange___init__, ⟨⟨bLookup, ei_OutOfRange, eo_OutOfRange, ed_OutOfRange, esa_OutOfRange, eb_OutOfRange, es_OutOfRange, et_OutOfRange, kc_OutOfRange⟩, h_OutOfRange___init__, if_OutOfRange___init__, B_OutOfRange___init__, PySem.W.mg_of X G aC_OutOfRange, ⟨⟨_, _, _, _, _, _, ca_OutOfRange___init__, cb_OutOfRange___init__, ce_OutOfRange___init__⟩, tp_OutOfRange___init__, PySem.W.mg_none_of X G b_super, su_OutOfRange___init__, op_OutOfRange___init__, me_OutOfRange___init__⟩, all1 tk_OutOfRange_value⟩, kb_OutOfRange___init__, _, _, _, _, F_NoAnswer___init__, ⟨⟨bLookup, ei_NoAnswer, eo_NoAnswer, ed_NoAnswer, esa_NoAnswer, eb_NoAnswer, es_NoAnswer, et_NoAnswer, kc_NoAnswer⟩, h_NoAnswer___init__, if_NoAnswer___init__, B_NoAnswer___init__, PySem.W.mg_of X G aC_NoAnswer, ⟨⟨_, _, _, _, _, _, ca_NoAnswer___init__, cb_NoAnswer___init__, ce_NoAnswer___init__⟩, tp_NoAnswer___init__, PySem.W.mg_none_of X G b_super, su_NoAnswer___init__, op_NoAnswer___init__, me_NoAnswer___init__⟩, all1 tk_NoAnswer_value⟩, kb_NoAnswer___init__, _, _, _, _, F_NoCase___init__, ⟨⟨bLookup, ei_NoCase, eo_NoCase, ed_NoCase, esa_NoCase, eb_NoCase, es_NoCase, et_NoCase, kc_NoCase⟩, h_NoCase___init__, if_NoCase___init__, B_NoCase___init__, PySem.W.mg_of X G aC_NoCase, ⟨⟨_, _, _, _, _, _, ca_NoCase___init__, cb_NoCase___init__, ce_NoCase___init__⟩, tp_NoCase___init__, PySem.W.mg_none_of X G b_super, su_NoCase___init__, op_NoCase___init__, me_NoCase___init__⟩, all1 tk_NoCase_case⟩, kb_NoCase___init__, _, _, _, _, F_NoBranch___init__, ⟨⟨bLookup, ei_NoBranch, eo_NoBranch, ed_NoBranch, esa_NoBranch, eb_NoBranch, es_NoBranch, et_NoBranch, kc_NoBranch⟩, h_NoBranch___init__, if_NoBranch___init__, B_NoBranch___init__, PySem.W.mg_of X G aC_NoBranch, ⟨⟨_, _, _, _, _, _, ca_NoBranch___init__, cb_NoBranch___init__, ce_NoBranch___init__⟩, tp_NoBranch___init__, PySem.W.mg_none_of X G b_super, su_NoBranch___init__, op_NoBranch___init__, me_NoBranch___init__⟩, all1 tk_NoBranch_value⟩, kb_NoBranch___init__, _, _, _, _, F_TooMany___init__, ⟨⟨bOverflow, ei_TooMany, eo_TooMany, ed_TooMany, esa_TooMany, eb_TooMany, es_TooMany, et_TooMany, kc_TooMany⟩, h_TooMany___init__, if_TooMany___init__, B_TooMany___init__, PySem.W.mg_of X G aC_TooMany, ⟨⟨_, _, _, _, _, _, ca_TooMany___init__, cb_TooMany___init__, ce_TooMany___init__⟩, tp_TooMany___init__, PySem.W.mg_none_of X G b_super, su_TooMany___init__, op_TooMany___init__, me_TooMany___init__⟩, all1 tk_TooMany_limit⟩, kb_TooMany___init__, _, _, _, _, F_TooDear___init__, ⟨⟨bOverflow, ei_TooDear, eo_TooDear, ed_TooDear, esa_TooDear, eb_TooDear, es_TooDear, et_TooDear, kc_TooDear⟩, h_TooDear___init__, if_TooDear___init__, B_TooDear___init__, PySem.W.mg_of X G aC_TooDear, ⟨⟨_, _, _, _, _, _, ca_TooDear___init__, cb_TooDear___init__, ce_TooDear___init__⟩, tp_TooDear___init__, PySem.W.mg_none_of X G b_super, su_TooDear___init__, op_TooDear___init__, me_TooDear___init__⟩, all1 tk_TooDear_number⟩, kb_TooDear___init__, _, _, _, _, F_Broken___init__, ⟨⟨bRuntime, ei_Broken, eo_Broken, ed_Broken, esa_Broken, eb_Broken, es_Broken, et_Broken, kc_Broken⟩, h_Broken___init__, if_Broken___init__, B_Broken___init__, PySem.W.mg_of X G aC_Broken, ⟨⟨_, _, _, _, _, _, ca_Broken___init__, cb_Broken___init__, ce_Broken___init__⟩, tp_Broken___init__, PySem.W.mg_none_of X G b_super, su_Broken___init__, op_Broken___init__, me_Broken___init__⟩, all2 tk_Broken_index tk_Broken_spot⟩, kb_Broken___init__, _, _, _, _, F_Unfit___init__, ⟨⟨bRuntime, ei_Unfit, eo_Unfit, ed_Unfit, esa_Unfit, eb_Unfit, es_Unfit, et_Unfit, kc_Unfit⟩, h_Unfit___init__, if_Unfit___init__, B_Unfit___init__, PySem.W.mg_of X G aC_Unfit, ⟨⟨_, _, _, _, _, _, ca_Unfit___init__, cb_Unfit___init__, ce_Unfit___init__⟩, tp_Unfit___init__, PySem.W.mg_none_of X G b_super, su_Unfit___init__, op_Unfit___init__, me_Unfit___init__⟩, all1 tk_Unfit_index⟩, kb_Unfit___init__, _, _, _, _, F_Refused___init__, ⟨⟨bRuntime, ei_Refused, eo_Refused, ed_Refused, esa_Refused, eb_Refused, es_Refused, et_Refused, kc_Refused⟩, h_Refused___init__, if_Refused___init__, B_Refused___init__, PySem.W.mg_of X G aC_Refused, ⟨⟨_, _, _, _, _, _, ca_Refused___init__, cb_Refused___init__, ce_Refused___init__⟩, tp_Refused___init__, PySem.W.mg_none_of X G b_super, su_Refused___init__, op_Refused___init__, me_Refused___init__⟩, all1 tk_Refused_change⟩, kb_Refused___init__, _, _, _, _, F_LookFailed___init__, ⟨⟨bRuntime, ei_LookFailed, eo_LookFailed, ed_LookFailed, esa_LookFailed, eb_LookFailed, es_LookFailed, et_LookFailed, kc_LookFailed⟩, h_LookFailed___init__, if_LookFailed___init__, B_LookFailed___init__, PySem.W.mg_of X G aC_LookFailed, ⟨⟨_, _, _, _, _, _, ca_LookFailed___init__, cb_LookFailed___init__, ce_LookFailed___init__⟩, tp_LookFailed___init__, PySem.W.mg_none_of X G b_super, su_LookFailed___init__, op_LookFailed___init__, me_LookFailed___init__⟩, all1 tk_LookFailed_number⟩, kb_LookFailed___init__, _, _, _, _, F_NoLook___init__, ⟨⟨bRuntime, ei_NoLook, eo_NoLook, ed_NoLook, esa_NoLook, eb_NoLook, es_NoLook, et_NoLook, kc_NoLook⟩, h_NoLook___init__, if_NoLook___init__, B_NoLook___init__, PySem.W.mg_of X G aC_NoLook, ⟨⟨_, _, _, _, _, _, ca_NoLook___init__, cb_NoLook___init__, ce_NoLook___init__⟩, tp_NoLook___init__, PySem.W.mg_none_of X G b_super, su_NoLook___init__, op_NoLook___init__, me_NoLook___init__⟩, all1 tk_NoLook_value⟩, kb_NoLook___init__, _, _, F__law_pen, ⟨PySem.W.mg_of X G h__law_pen, k__law_pen, B__law_pen⟩, _, _, F__law_draw, ⟨PySem.W.mg_of X G h__law_draw, k__law_draw, B__law_draw⟩, _, _, F__law_pick, ⟨PySem.W.mg_of X G h__law_pick, k__law_pick, B__law_pick⟩, _, _, F__law_any_value, ⟨PySem.W.mg_of X G h__law_any_value, k__law_any_value, B__law_any_value⟩, _, _, F__law_some_errors, ⟨PySem.W.mg_of X G h__law_some_errors, k__law_some_errors, B__law_some_errors⟩, _, _, F__law_other_errors, ⟨PySem.W.mg_of X G h__law_other_errors, k__law_other_errors, B__law_other_errors⟩, _, _, F__law_classes, ⟨PySem.W.mg_of X G h__law_classes, k__law_classes, B__law_classes⟩, _, _, F__law_sorts, ⟨PySem.W.mg_of X G h__law_sorts, k__law_sorts, B__law_sorts⟩, _, _, F_law, ⟨PySem.W.mg_of X G h_law, k_law, B_law⟩, x0_InvalidSchema, kc_InvalidSchema, eb_InvalidSchema, et_InvalidSchema, x0_OtherSchema, kc_OtherSchema, eb_OtherSchema, et_OtherSchema, x0_InvalidPair, kc_InvalidPair, eb_InvalidPair, et_InvalidPair, x0_NoLine, kc_NoLine, eb_NoLine, et_NoLine, x0_Nothing, kc_Nothing, eb_Nothing, et_Nothing, x0_NeverFits, kc_NeverFits, eb_NeverFits, et_NeverFits, PySem.W.mg_none_of X G b_isinstance, PySem.W.mg_none_of X G b_len, PySem.W.mg_none_of X G b_list, PySem.W.mg_none_of X G b_zip, PySem.W.mg_none_of X G b_range, PySem.W.mg_none_of X G b_int, PySem.W.mg_none_of X G b_abs, PySem.W.mg_none_of X G b_repr, PySem.W.mg_none_of X G b_min, PySem.W.mg_none_of X G b_super, PySem.W.mg_none_of X G b_ValueError, PySem.W.mg_none_of X G b_LookupError, PySem.W.mg_none_of X G b_OverflowError, PySem.W.mg_none_of X G b_RuntimeError, PySem.W.mg_none_of X G b_IndexError, PySem.W.mg_none_of X G b_KeyError, PySem.W.mg_none_of X G b_NotImplementedError, ⟨_, PySem.W.mg_of X G y_MAX_WORD⟩, ⟨_, PySem.W.mg_of X G y_MAX_TABLES⟩, ⟨_, PySem.W.mg_of X G y_MAX_COLUMNS⟩, ⟨_, PySem.W.mg_of X G y_MAX_STATEMENTS⟩, ⟨_, PySem.W.mg_of X G y_MAX_LEAST⟩, ⟨_, PySem.W.mg_of X G y_MAX_MOST⟩, ⟨_, PySem.W.mg_of X G y_MAX_ENTRIES⟩, ⟨_, PySem.W.mg_of X G y_MAX_WANTED⟩, ⟨_, PySem.W.mg_of X G y_MAX_PAPER⟩, ⟨_, PySem.W.mg_of X G y_MAX_ANSWERS⟩, ⟨_, PySem.W.mg_of X G y_MAX_OPEN⟩, ⟨_, PySem.W.mg_of X G y_MAX_NAMES⟩, PySem.W.mg_of X G aC_InvalidTable, PySem.W.mg_of X G aC_InvalidSchema, PySem.W.mg_of X G aC_InvalidRow, PySem.W.mg_of X G aC_OtherSchema, PySem.W.mg_of X G aC_InvalidRule, PySem.W.mg_of X G aC_Misfit, PySem.W.mg_of X G aC_Circle, PySem.W.mg_of X G aC_InvalidFact, PySem.W.mg_of X G aC_InvalidChange, PySem.W.mg_of X G aC_InvalidAnswer, PySem.W.mg_of X G aC_InvalidTemplate, PySem.W.mg_of X G aC_InvalidNames, PySem.W.mg_of X G aC_InvalidPair, PySem.W.mg_of X G aC_InvalidLimit, PySem.W.mg_of X G aC_Unreadable, PySem.W.mg_of X G aC_NoLine, PySem.W.mg_of X G aC_UnknownTable, PySem.W.mg_of X G aC_UnknownColumn, PySem.W.mg_of X G aC_OutOfRange, PySem.W.mg_of X G aC_NoAnswer, PySem.W.mg_of X G aC_NoCase, PySem.W.mg_of X G aC_NoBranch, PySem.W.mg_of X G aC_Nothing, PySem.W.mg_of X G aC_TooMany, PySem.W.mg_of X G aC_TooDear, PySem.W.mg_of X G aC_Broken, PySem.W.mg_of X G aC_Unfit, PySem.W.mg_of X G aC_NeverFits, PySem.W.mg_of X G aC_Refused, PySem.W.mg_of X G aC_LookFailed, PySem.W.mg_of X G aC_NoLook⟩
  exact ⟨_, fun s v => .of_eq rfl, fun base _ _ hsb => (ok_law A hsb).imp fun _ _ _ _ => law_sp (plain_law fk)⟩
end Q
namespace Q
open PySem L2 PySem.Spec PyProof.Rows NdefX LamX
theorem hfacts {w : World} {h : Heap} {mg : Str → Option Value} {fa : Addr} {K : Frg} (X : K.In h) (G : h.Ns mainGlobals mg) (hfa : mg "law" = some (.ref fa)) (c : ckAll K = true) (fv : fvAll K = vlAll) :
    ∃ fd : FuncData, (∀ (s : Shared) (v : Value), BindsTo s fd ⟨[v], []⟩ [("_law_script", v)]) ∧ ∀ base : Heap, K.In base → base.Ns mainGlobals mg → (∃ o, base.get? sysModules = some o) → FnOkG (PySem.Challenge.rw_onlylooks_k92_errors_and_limits).prog w K mg base (L2.CX (PySem.Challenge.rw_onlylooks_k92_errors_and_limits).prog w) 6 fa fd ["_law_script"] (spLaw K) := by
  obtain ⟨c0, c1, c2, c3, c4, c5, c6, c7, c8, c9, c10, c11, c12, c13, c14, c15, c16, c17, c18, c19, c20, c21, c22, c23, c24, c25⟩ := ckAll_ok c
  obtain ⟨aC_InvalidTable, aC_InvalidSchema, aC_InvalidRow, aC_OtherSchema, aC_InvalidRule, aC_Misfit, aC_Circle, aC_InvalidFact, aC_InvalidChange, aC_InvalidAnswer, aC_InvalidTemplate, aC_InvalidNames, aC_InvalidPair, aC_InvalidLimit, aC_Unreadable, aC_NoLine, aC_UnknownTable, aC_UnknownColumn, aC_OutOfRange, aC_NoAnswer, aC_NoCase, aC_NoBranch, aC_Nothing, aC_TooMany, aC_TooDear, aC_Broken, aC_Unfit, aC_NeverFits, aC_Refused, aC_LookFailed⟩ := ck0_ok c0
  obtain ⟨aC_NoLook, h_InvalidTable___init__, q1_InvalidTable___init__, q2_InvalidTable___init__, q3_InvalidTable___init__, c_InvalidTable___init__, k_InvalidTable___init__, if_InvalidTable___init__, su_InvalidTable___init__, op_InvalidTable___init__, me_InvalidTable___init__, h_InvalidTable___init__, ei_InvalidTable, eo_InvalidTable, ed_InvalidTable, esa_InvalidTable, eb_InvalidTable, es_InvalidTable, et_InvalidTable, kc_InvalidTable, tk_InvalidTable_argument, h_InvalidRow___init__, q1_InvalidRow___init__, q2_InvalidRow___init__, q3_InvalidRow___init__, c_InvalidRow___init__, k_InvalidRow___init__, if_InvalidRow___init__, su_InvalidRow___init__, op_InvalidRow___init__⟩ := ck1_ok c1
  obtain ⟨me_InvalidRow___init__, h_InvalidRow___init__, ei_InvalidRow, eo_InvalidRow, ed_InvalidRow, esa_InvalidRow, eb_InvalidRow, es_InvalidRow, et_InvalidRow, kc_InvalidRow, tk_InvalidRow_value, h_InvalidRule___init__, q1_InvalidRule___init__, q2_InvalidRule___init__, q3_InvalidRule___init__, c_InvalidRule___init__, k_InvalidRule___init__, if_InvalidRule___init__, su_InvalidRule___init__, op_InvalidRule___init__, me_InvalidRule___init__, h_InvalidRule___init__, ei_InvalidRule, eo_InvalidRule, ed_InvalidRule, esa_InvalidRule, eb_InvalidRule, es_InvalidRule, et_InvalidRule, kc_InvalidRule⟩ := ck2_ok c2
  obtain ⟨tk_InvalidRule_argument, h_Misfit___init__, q1_Misfit___init__, q2_Misfit___init__, q3_Misfit___init__, c_Misfit___init__, k_Misfit___init__, if_Misfit___init__, su_Misfit___init__, op_Misfit___init__, me_Misfit___init__, h_Misfit___init__, ei_Misfit, eo_Misfit, ed_Misfit, esa_Misfit, eb_Misfit, es_Misfit, et_Misfit, kc_Misfit, tk_Misfit_index, h_Circle___init__, q1_Circle___init__, q2_Circle___init__, q3_Circle___init__, c_Circle___init__, k_Circle___init__, if_Circle___init__, su_Circle___init__, op_Circle___init__⟩ := ck3_ok c3
  obtain ⟨me_Circle___init__, h_Circle___init__, ei_Circle, eo_Circle, ed_Circle, esa_Circle, eb_Circle, es_Circle, et_Circle, kc_Circle, tk_Circle_value, h_InvalidFact___init__, q1_InvalidFact___init__, q2_InvalidFact___init__, q3_InvalidFact___init__, c_InvalidFact___init__, k_InvalidFact___init__, if_InvalidFact___init__, su_InvalidFact___init__, op_InvalidFact___init__, me_InvalidFact___init__, h_InvalidFact___init__, ei_InvalidFact, eo_InvalidFact, ed_InvalidFact, esa_InvalidFact, eb_InvalidFact, es_InvalidFact, et_InvalidFact, kc_InvalidFact⟩ := ck4_ok c4
  obtain ⟨tk_InvalidFact_index, h_InvalidChange___init__, q1_InvalidChange___init__, q2_InvalidChange___init__, q3_InvalidChange___init__, c_InvalidChange___init__, k_InvalidChange___init__, if_InvalidChange___init__, su_InvalidChange___init__, op_InvalidChange___init__, me_InvalidChange___init__, h_InvalidChange___init__, ei_InvalidChange, eo_InvalidChange, ed_InvalidChange, esa_InvalidChange, eb_InvalidChange, es_InvalidChange, et_InvalidChange, kc_InvalidChange, tk_InvalidChange_index, h_InvalidAnswer___init__, q1_InvalidAnswer___init__, q2_InvalidAnswer___init__, q3_InvalidAnswer___init__, c_InvalidAnswer___init__, k_InvalidAnswer___init__, if_InvalidAnswer___init__, su_InvalidAnswer___init__, op_InvalidAnswer___init__⟩ := ck5_ok c5
  obtain ⟨me_InvalidAnswer___init__, h_InvalidAnswer___init__, ei_InvalidAnswer, eo_InvalidAnswer, ed_InvalidAnswer, esa_InvalidAnswer, eb_InvalidAnswer, es_InvalidAnswer, et_InvalidAnswer, kc_InvalidAnswer, tk_InvalidAnswer_value, h_InvalidTemplate___init__, q1_InvalidTemplate___init__, q2_InvalidTemplate___init__, q3_InvalidTemplate___init__, c_InvalidTemplate___init__, k_InvalidTemplate___init__, if_InvalidTemplate___init__, su_InvalidTemplate___init__, op_InvalidTemplate___init__, me_InvalidTemplate___init__, h_InvalidTemplate___init__, ei_InvalidTemplate, eo_InvalidTemplate, ed_InvalidTemplate, esa_InvalidTemplate, eb_InvalidTemplate, es_InvalidTemplate, et_InvalidTemplate, kc_InvalidTemplate⟩ := ck6_ok c6
  obtain ⟨tk_InvalidTemplate_index, h_InvalidNames___init__, q1_InvalidNames___init__, q2_InvalidNames___init__, q3_InvalidNames___init__, c_InvalidNames___init__, k_InvalidNames___init__, if_InvalidNames___init__, su_InvalidNames___init__, op_InvalidNames___init__, me_InvalidNames___init__, h_InvalidNames___init__, ei_InvalidNames, eo_InvalidNames, ed_InvalidNames, esa_InvalidNames, eb_InvalidNames, es_InvalidNames, et_InvalidNames, kc_InvalidNames, tk_InvalidNames_value, h_InvalidLimit___init__, q1_InvalidLimit___init__, q2_InvalidLimit___init__, q3_InvalidLimit___init__, c_InvalidLimit___init__, k_InvalidLimit___init__, if_InvalidLimit___init__, su_InvalidLimit___init__, op_InvalidLimit___init__⟩ := ck7_ok c7
  obtain ⟨me_InvalidLimit___init__, h_InvalidLimit___init__, ei_InvalidLimit, eo_InvalidLimit, ed_InvalidLimit, esa_InvalidLimit, eb_InvalidLimit, es_InvalidLimit, et_InvalidLimit, kc_InvalidLimit, tk_InvalidLimit_value, h_Unreadable___init__, q1_Unreadable___init__, q2_Unreadable___init__, q3_Unreadable___init__, c_Unreadable___init__, k_Unreadable___init__, if_Unreadable___init__, su_Unreadable___init__, op_Unreadable___init__, me_Unreadable___init__, h_Unreadable___init__, ei_Unreadable, eo_Unreadable, ed_Unreadable, esa_Unreadable, eb_Unreadable, es_Unreadable, et_Unreadable, kc_Unreadable⟩ := ck8_ok c8
  obtain ⟨tk_Unreadable_index, h_UnknownTable___init__, q1_UnknownTable___init__, q2_UnknownTable___init__, q3_UnknownTable___init__, c_UnknownTable___init__, k_UnknownTable___init__, if_UnknownTable___init__, su_UnknownTable___init__, op_UnknownTable___init__, me_UnknownTable___init__, h_UnknownTable___init__, ei_UnknownTable, eo_UnknownTable, ed_UnknownTable, esa_UnknownTable, eb_UnknownTable, es_UnknownTable, et_UnknownTable, kc_UnknownTable, tk_UnknownTable_value, h_UnknownColumn___init__, q1_UnknownColumn___init__, q2_UnknownColumn___init__, q3_UnknownColumn___init__, c_UnknownColumn___init__, k_UnknownColumn___init__, if_UnknownColumn___init__, su_UnknownColumn___init__, op_UnknownColumn___init__⟩ := ck9_ok c9
  obtain ⟨me_UnknownColumn___init__, h_UnknownColumn___init__, ei_UnknownColumn, eo_UnknownColumn, ed_UnknownColumn, esa_UnknownColumn, eb_UnknownColumn, es_UnknownColumn, et_UnknownColumn, kc_UnknownColumn, tk_UnknownColumn_value, h_OutOfRange___init__, q1_OutOfRange___init__, q2_OutOfRange___init__, q3_OutOfRange___init__, c_OutOfRange___init__, k_OutOfRange___init__, if_OutOfRange___init__, su_OutOfRange___init__, op_OutOfRange___init__, me_OutOfRange___init__, h_OutOfRange___init__, ei_OutOfRange, eo_OutOfRange, ed_OutOfRange, esa_OutOfRange, eb_OutOfRange, es_OutOfRange, et_OutOfRange, kc_OutOfRange⟩ := ck10_ok c10
  obtain ⟨tk_OutOfRange_value, h_NoAnswer___init__, q1_NoAnswer___init__, q2_NoAnswer___init__, q3_NoAnswer___init__, c_NoAnswer___init__, k_NoAnswer___init__, if_NoAnswer___init__, su_NoAnswer___init__, op_NoAnswer___init__, me_NoAnswer___init__, h_NoAnswer___init__, ei_NoAnswer, eo_NoAnswer, ed_NoAnswer, esa_NoAnswer, eb_NoAnswer, es_NoAnswer, et_NoAnswer, kc_NoAnswer, tk_NoAnswer_value, h_NoCase___init__, q1_NoCase___init__, q2_NoCase___init__, q3_NoCase___init__, c_NoCase___init__, k_NoCase___init__, if_NoCase___init__, su_NoCase___init__, op_NoCase___init__⟩ := ck11_ok c11
  obtain ⟨me_NoCase___init__, h_NoCase___init__, ei_NoCase, eo_NoCase, ed_NoCase, esa_NoCase, eb_NoCase, es_NoCase, et_NoCase, kc_NoCase, tk_NoCase_case, h_NoBranch___init__, q1_NoBranch___init__, q2_NoBranch___init__, q3_NoBranch___init__, c_NoBranch___init__, k_NoBranch___init__, if_NoBranch___init__, su_NoBranch___init__, op_NoBranch___init__, me_NoBranch___init__, h_NoBranch___init__, ei_NoBranch, eo_NoBranch, ed_NoBranch, esa_NoBranch, eb_NoBranch, es_NoBranch, et_NoBranch, kc_NoBranch⟩ := ck12_ok c12
  obtain ⟨tk_NoBranch_value, h_TooMany___init__, q1_TooMany___init__, q2_TooMany___init__, q3_TooMany___init__, c_TooMany___init__, k_TooMany___init__, if_TooMany___init__, su_TooMany___init__, op_TooMany___init__, me_TooMany___init__, h_TooMany___init__, ei_TooMany, eo_TooMany, ed_TooMany, esa_TooMany, eb_TooMany, es_TooMany, et_TooMany, kc_TooMany, tk_TooMany_limit, h_TooDear___init__, q1_TooDear___init__, q2_TooDear___init__, q3_TooDear___init__, c_TooDear___init__, k_TooDear___init__, if_TooDear___init__, su_TooDear___init__, op_TooDear___init__⟩ := ck13_ok c13
  obtain ⟨me_TooDear___init__, h_TooDear___init__, ei_TooDear, eo_TooDear, ed_TooDear, esa_TooDear, eb_TooDear, es_TooDear, et_TooDear, kc_TooDear, tk_TooDear_number, h_Broken___init__, q1_Broken___init__, q2_Broken___init__, q3_Broken___init__, c_Broken___init__, k_Broken___init__, if_Broken___init__, su_Broken___init__, op_Broken___init__, me_Broken___init__, h_Broken___init__, ei_Broken, eo_Broken, ed_Broken, esa_Broken, eb_Broken, es_Broken, et_Broken, kc_Broken⟩ := ck14_ok c14
  obtain ⟨tk_Broken_index, tk_Broken_spot, h_Unfit___init__, q1_Unfit___init__, q2_Unfit___init__, q3_Unfit___init__, c_Unfit___init__, k_Unfit___init__, if_Unfit___init__, su_Unfit___init__, op_Unfit___init__, me_Unfit___init__, h_Unfit___init__, ei_Unfit, eo_Unfit, ed_Unfit, esa_Unfit, eb_Unfit, es_Unfit, et_Unfit, kc_Unfit, tk_Unfit_index, h_Refused___init__, q1_Refused___init__, q2_Refused___init__, q3_Refused___init__, c_Refused___init__, k_Refused___init__, if_Refused___init__, su_Refused___init__⟩ := ck15_ok c15
  obtain ⟨op_Refused___init__, me_Refused___init__, h_Refused___init__, ei_Refused, eo_Refused, ed_Refused, esa_Refused, eb_Refused, es_Refused, et_Refused, kc_Refused, tk_Refused_change, h_LookFailed___init__, q1_LookFailed___init__, q2_LookFailed___init__, q3_LookFailed___init__, c_LookFailed___init__, k_LookFailed___init__, if_LookFailed___init__, su_LookFailed___init__, op_LookFailed___init__, me_LookFailed___init__, h_LookFailed___init__, ei_LookFailed, eo_LookFailed, ed_LookFailed, esa_LookFailed, eb_LookFailed, es_LookFailed, et_LookFailed⟩ := ck16_ok c16
  obtain ⟨kc_LookFailed, tk_LookFailed_number, h_NoLook___init__, q1_NoLook___init__, q2_NoLook___init__, q3_NoLook___init__, c_NoLook___init__, k_NoLook___init__, if_NoLook___init__, su_NoLook___init__, op_NoLook___init__, me_NoLook___init__, h_NoLook___init__, ei_NoLook, eo_NoLook, ed_NoLook, esa_NoLook, eb_NoLook, es_NoLook, et_NoLook, kc_NoLook, tk_NoLook_value, h__law_pen, c__law_pen, k__law_pen, h__law_draw, c__law_draw, k__law_draw, h__law_pick, c__law_pick⟩ := ck17_ok c17
  obtain ⟨k__law_pick, h__law_any_value, c__law_any_value, k__law_any_value, h__law_some_errors, c__law_some_errors, k__law_some_errors, h__law_other_errors, c__law_other_errors, k__law_other_errors, h__law_classes, c__law_classes, k__law_classes, h__law_sorts, c__law_sorts, k__law_sorts, h_law, c_law, k_law, x0_InvalidSchema, kc_InvalidSchema, eb_InvalidSchema, et_InvalidSchema, x0_OtherSchema, kc_OtherSchema, eb_OtherSchema, et_OtherSchema, x0_InvalidPair, kc_InvalidPair, eb_InvalidPair⟩ := ck18_ok c18
  obtain ⟨et_InvalidPair, x0_NoLine, kc_NoLine, eb_NoLine, et_NoLine, x0_Nothing, kc_Nothing, eb_Nothing, et_Nothing, x0_NeverFits, kc_NeverFits, eb_NeverFits, et_NeverFits, b_isinstance, b_len, b_list, b_zip, b_range, b_int, b_abs, b_repr, b_min, b_super, b_ValueError, b_LookupError, b_OverflowError, b_RuntimeError, b_IndexError, b_KeyError, b_NotImplementedError⟩ := ck19_ok c19
  obtain ⟨Yy_MAX_WORD, Yy_MAX_TABLES, Yy_MAX_COLUMNS, Yy_MAX_STATEMENTS, Yy_MAX_LEAST, Yy_MAX_MOST, Yy_MAX_ENTRIES, Yy_MAX_WANTED, Yy_MAX_PAPER, Yy_MAX_ANSWERS, Yy_MAX_OPEN, Yy_MAX_NAMES, kM, kB, kD, cg_InvalidTable, cn_InvalidTable, ch_InvalidTable, cm_InvalidTable, io_n, io_t, cf_InvalidTable_argument, cg_InvalidSchema, cn_InvalidSchema, ch_InvalidSchema, cm_InvalidSchema, ed_InvalidSchema, cg_InvalidRow, cn_InvalidRow, ch_InvalidRow⟩ := ck20_ok c20
  obtain ⟨cm_InvalidRow, cf_InvalidRow_value, cg_OtherSchema, cn_OtherSchema, ch_OtherSchema, cm_OtherSchema, ed_OtherSchema, cg_InvalidRule, cn_InvalidRule, ch_InvalidRule, cm_InvalidRule, cf_InvalidRule_argument, cg_Misfit, cn_Misfit, ch_Misfit, cm_Misfit, cf_Misfit_index, cg_Circle, cn_Circle, ch_Circle, cm_Circle, cf_Circle_value, cg_InvalidFact, cn_InvalidFact, ch_InvalidFact, cm_InvalidFact, cf_InvalidFact_index, cg_InvalidChange, cn_InvalidChange, ch_InvalidChange⟩ := ck21_ok c21
  obtain ⟨cm_InvalidChange, cf_InvalidChange_index, cg_InvalidAnswer, cn_InvalidAnswer, ch_InvalidAnswer, cm_InvalidAnswer, cf_InvalidAnswer_value, cg_InvalidTemplate, cn_InvalidTemplate, ch_InvalidTemplate, cm_InvalidTemplate, cf_InvalidTemplate_index, cg_InvalidNames, cn_InvalidNames, ch_InvalidNames, cm_InvalidNames, cf_InvalidNames_value, cg_InvalidPair, cn_InvalidPair, ch_InvalidPair, cm_InvalidPair, ed_InvalidPair, cg_InvalidLimit, cn_InvalidLimit, ch_InvalidLimit, cm_InvalidLimit, cf_InvalidLimit_value, cg_Unreadable, cn_Unreadable, ch_Unreadable⟩ := ck22_ok c22
  obtain ⟨cm_Unreadable, cf_Unreadable_index, cg_NoLine, cn_NoLine, ch_NoLine, cm_NoLine, ed_NoLine, cg_UnknownTable, cn_UnknownTable, ch_UnknownTable, cm_UnknownTable, cf_UnknownTable_value, cg_UnknownColumn, cn_UnknownColumn, ch_UnknownColumn, cm_UnknownColumn, cf_UnknownColumn_value, cg_OutOfRange, cn_OutOfRange, ch_OutOfRange, cm_OutOfRange, cf_OutOfRange_value, cg_NoAnswer, cn_NoAnswer, ch_NoAnswer, cm_NoAnswer, cf_NoAnswer_value, cg_NoCase, cn_NoCase, ch_NoCase⟩ := ck23_ok c23
  obtain ⟨cm_NoCase, cf_NoCase_case, cg_NoBranch, cn_NoBranch, ch_NoBranch, cm_NoBranch, cf_NoBranch_value, cg_Nothing, cn_Nothing, ch_Nothing, cm_Nothing, ed_Nothing, cg_TooMany, cn_TooMany, ch_TooMany, cm_TooMany, cf_TooMany_limit, cg_TooDear, cn_TooDear, ch_TooDear, cm_TooDear, cf_TooDear_number, cg_Broken, cn_Broken, ch_Broken, cm_Broken, cf_Broken_index, cf_Broken_spot, cg_Unfit, cn_Unfit⟩ := ck24_ok c24
  obtain ⟨ch_Unfit, cm_Unfit, cf_Unfit_index, cg_NeverFits, cn_NeverFits, ch_NeverFits, cm_NeverFits, ed_NeverFits, cg_Refused, cn_Refused, ch_Refused, cm_Refused, cf_Refused_change, cg_LookFailed, cn_LookFailed, ch_LookFailed, cm_LookFailed, cf_LookFailed_number, cg_NoLook, cn_NoLook, ch_NoLook, cm_NoLook, cf_NoLook_value⟩ := ck25_ok c25
  obtain ⟨_, _, _, _, _, _, _, _, _, _, _, l_InvalidTable___init__, lc_InvalidTable___init__⟩ := sup_ex (at_list fv 0 rfl rfl : fnV K (x_a_InvalidTable___init__ K) = superV "__init__" "InvalidTable.__init__" s_InvalidTable___init__) q1_InvalidTable___init__ q2_InvalidTable___init__
  obtain ⟨_, _, _, _, _, ca_InvalidTable___init__, cb_InvalidTable___init__⟩ := file_ex q3_InvalidTable___init__
  have ce_InvalidTable___init__ : (((PySem.Challenge.rw_onlylooks_k92_errors_and_limits).prog.main.file : Str) == (PySem.Challenge.rw_onlylooks_k92_errors_and_limits).prog.main.file) = true := by simp
  have tp_InvalidTable___init__ : ((PySem.Challenge.rw_onlylooks_k92_errors_and_limits).prog.main.scope.names.lookup ("super" : Str)).isSome = false := by first | rfl | decide +kernel
  obtain ⟨_, _, _, _, _, _, _, _, _, _, _, l_InvalidRow___init__, lc_InvalidRow___init__⟩ := sup_ex (at_list fv 1 rfl rfl : fnV K (x_a_InvalidRow___init__ K) = superV "__init__" "InvalidRow.__init__" s_InvalidRow___init__) q1_InvalidRow___init__ q2_InvalidRow___init__
  obtain ⟨_, _, _, _, _, ca_InvalidRow___init__, cb_InvalidRow___init__⟩ := file_ex q3_InvalidRow___init__
  have ce_InvalidRow___init__ : (((PySem.Challenge.rw_onlylooks_k92_errors_and_limits).prog.main.file : Str) == (PySem.Challenge.rw_onlylooks_k92_errors_and_limits).prog.main.file) = true := by simp
  have tp_InvalidRow___init__ : ((PySem.Challenge.rw_onlylooks_k92_errors_and_limits).prog.main.scope.names.lookup ("super" : Str)).isSome = false := by first | rfl | decide +kernel
  obtain ⟨_, _, _, _, _, _, _, _, _, _, _, l_InvalidRule___init__, lc_InvalidRule___init__⟩ := sup_ex (at_list fv 2 rfl rfl : fnV K (x_a_InvalidRule___init__ K) = superV "__init__" "InvalidRule.__init__" s_InvalidRule___init__) q1_InvalidRule___init__ q2_InvalidRule___init__
  obtain ⟨_, _, _, _, _, ca_InvalidRule___init__, cb_InvalidRule___init__⟩ := file_ex q3_InvalidRule___init__
  have ce_InvalidRule___init__ : (((PySem.Challenge.rw_onlylooks_k92_errors_and_limits).prog.main.file : Str) == (PySem.Challenge.rw_onlylooks_k92_errors_and_limits).prog.main.file) = true := by simp
  have tp_InvalidRule___init__ : ((PySem.Challenge.rw_onlylooks_k92_errors_and_limits).prog.main.scope.names.lookup ("super" : Str)).isSome = false := by first | rfl | decide +kernel
  obtain ⟨_, _, _, _, _, _, _, _, _, _, _, l_Misfit___init__, lc_Misfit___init__⟩ := sup_ex (at_list fv 3 rfl rfl : fnV K (x_a_Misfit___init__ K) = superV "__init__" "Misfit.__init__" s_Misfit___init__) q1_Misfit___init__ q2_Misfit___init__
  obtain ⟨_, _, _, _, _, ca_Misfit___init__, cb_Misfit___init__⟩ := file_ex q3_Misfit___init__
  have ce_Misfit___init__ : (((PySem.Challenge.rw_onlylooks_k92_errors_and_limits).prog.main.file : Str) == (PySem.Challenge.rw_onlylooks_k92_errors_and_limits).prog.main.file) = true := by simp
  have tp_Misfit___init__ : ((PySem.Challenge.rw_onlylooks_k92_errors_and_limits).prog.main.scope.names.lookup ("super" : Str)).isSome = false := by first | rfl | decide +kernel
  obtain ⟨_, _, _, _, _, _, _, _, _, _, _, l_Circle___init__, lc_Circle___init__⟩ := sup_ex (at_list fv 4 rfl rfl : fnV K (x_a_Circle___init__ K) = superV "__init__" "Circle.__init__" s_Circle___init__) q1_Circle___init__ q2_Circle___init__
  obtain ⟨_, _, _, _, _, ca_Circle___init__, cb_Circle___init__⟩ := file_ex q3_Circle___init__
  have ce_Circle___init__ : (((PySem.Challenge.rw_onlylooks_k92_errors_and_limits).prog.main.file : Str) == (PySem.Challenge.rw_onlylooks_k92_errors_and_limits).prog.main.file) = true := by simp
  have tp_Circle___init__ : ((PySem.Challenge.rw_onlylooks_k92_errors_and_limits).prog.main.scope.names.lookup ("super" : Str)).isSome = false := by first | rfl | decide +kernel
  obtain ⟨_, _, _, _, _, _, _, _, _, _, _, l_InvalidFact___init__, lc_InvalidFact___init__⟩ := sup_ex (at_list fv 5 rfl rfl : fnV K (x_a_InvalidFact___init__ K) = superV "__init__" "InvalidFact.__init__" s_InvalidFact___init__) q1_InvalidFact___init__ q2_InvalidFact___init__
  obtain ⟨_, _, _, _, _, ca_InvalidFact___init__, cb_InvalidFact___init__⟩ := file_ex q3_InvalidFact___init__
  have ce_InvalidFact___init__ : (((PySem.Challenge.rw_onlylooks_k92_errors_and_limits).prog.main.file : Str) == (PySem.Challenge.rw_onlylooks_k92_errors_and_limits).prog.main.file) = true := by simp
  have tp_InvalidFact___init__ : ((PySem.Challenge.rw_onlylooks_k92_errors_and_limits).prog.main.scope.names.lookup ("super" : Str)).isSome = false := by first | rfl | decide +kernel
  obtain ⟨_, _, _, _, _, _, _, _, _, _, _, l_InvalidChange___init__, lc_InvalidChange___init__⟩ := sup_ex (at_list fv 6 rfl rfl : fnV K (x_a_InvalidChange___init__ K) = superV "__init__" "InvalidChange.__init__" s_InvalidChange___init__) q1_InvalidChange___init__ q2_InvalidChange___init__
  obtain ⟨_, _, _, _, _, ca_InvalidChange___init__, cb_InvalidChange___init__⟩ := file_ex q3_InvalidChange___init__
  have ce_InvalidChange___init__ : (((PySem.Challenge.rw_onlylooks_k92_errors_and_limits).prog.main.file : Str) == (PySem.Challenge.rw_onlylooks_k92_errors_and_limits).prog.main.file) = true := by simp
  have tp_InvalidChange___init__ : ((PySem.Challenge.rw_onlylooks_k92_errors_and_limits).prog.main.scope.names.lookup ("super" : Str)).isSome = false := by first | rfl | decide +kernel
  obtain ⟨_, _, _, _, _, _, _, _, _, _, _, l_InvalidAnswer___init__, lc_InvalidAnswer___init__⟩ := sup_ex (at_list fv 7 rfl rfl : fnV K (x_a_InvalidAnswer___init__ K) = superV "__init__" "InvalidAnswer.__init__" s_InvalidAnswer___init__) q1_InvalidAnswer___init__ q2_InvalidAnswer___init__
  obtain ⟨_, _, _, _, _, ca_InvalidAnswer___init__, cb_InvalidAnswer___init__⟩ := file_ex q3_InvalidAnswer___init__
  have ce_InvalidAnswer___init__ : (((PySem.Challenge.rw_onlylooks_k92_errors_and_limits).prog.main.file : Str) == (PySem.Challenge.rw_onlylooks_k92_errors_and_limits).prog.main.file) = true := by simp
  have tp_InvalidAnswer___init__ : ((PySem.Challenge.rw_onlylooks_k92_errors_and_limits).prog.main.scope.names.lookup ("super" : Str)).isSome = false := by first | rfl | decide +kernel
  obtain ⟨_, _, _, _, _, _, _, _, _, _, _, l_InvalidTemplate___init__, lc_InvalidTemplate___init__⟩ := sup_ex (at_list fv 8 rfl rfl : fnV K (x_a_InvalidTemplate___init__ K) = superV "__init__" "InvalidTemplate.__init__" s_InvalidTemplate___init__) q1_InvalidTemplate___init__ q2_InvalidTemplate___init__
  obtain ⟨_, _, _, _, _, ca_InvalidTemplate___init__, cb_InvalidTemplate___init__⟩ := file_ex q3_InvalidTemplate___init__
  have ce_InvalidTemplate___init__ : (((PySem.Challenge.rw_onlylooks_k92_errors_and_limits).prog.main.file : Str) == (PySem.Challenge.rw_onlylooks_k92_errors_and_limits).prog.main.file) = true := by simp
  have tp_InvalidTemplate___init__ : ((PySem.Challenge.rw_onlylooks_k92_errors_and_limits).prog.main.scope.names.lookup ("super" : Str)).isSome = false := by first | rfl | decide +kernel
  obtain ⟨_, _, _, _, _, _, _, _, _, _, _, l_InvalidNames___init__, lc_InvalidNames___init__⟩ := sup_ex (at_list fv 9 rfl rfl : fnV K (x_a_InvalidNames___init__ K) = superV "__init__" "InvalidNames.__init__" s_InvalidNames___init__) q1_InvalidNames___init__ q2_InvalidNames___init__
  obtain ⟨_, _, _, _, _, ca_InvalidNames___init__, cb_InvalidNames___init__⟩ := file_ex q3_InvalidNames___init__
  have ce_InvalidNames___init__ : (((PySem.Challenge.rw_onlylooks_k92_errors_and_limits).prog.main.file : Str) == (PySem.Challenge.rw_onlylooks_k92_errors_and_limits).prog.main.file) = true := by simp
  have tp_InvalidNames___init__ : ((PySem.Challenge.rw_onlylooks_k92_errors_and_limits).prog.main.scope.names.lookup ("super" : Str)).isSome = false := by first | rfl | decide +kernel
  obtain ⟨_, _, _, _, _, _, _, _, _, _, _, l_InvalidLimit___init__, lc_InvalidLimit___init__⟩ := sup_ex (at_list fv 10 rfl rfl : fnV K (x_a_InvalidLimit___init__ K) = superV "__init__" "InvalidLimit.__init__" s_InvalidLimit___init__) q1_InvalidLimit___init__ q2_InvalidLimit___init__
  obtain ⟨_, _, _, _, _, ca_InvalidLimit___init__, cb_InvalidLimit___init__⟩ := file_ex q3_InvalidLimit___init__
  have ce_InvalidLimit___init__ : (((PySem.Challenge.rw_onlylooks_k92_errors_and_limits).prog.main.file : Str) == (PySem.Challenge.rw_onlylooks_k92_errors_and_limits).prog.main.file) = true := by simp
  have tp_InvalidLimit___init__ : ((PySem.Challenge.rw_onlylooks_k92_errors_and_limits).prog.main.scope.names.lookup ("super" : Str)).isSome = false := by first | rfl | decide +kernel
  obtain ⟨_, _, _, _, _, _, _, _, _, _, _, l_Unreadable___init__, lc_Unreadable___init__⟩ := sup_ex (at_list fv 11 rfl rfl : fnV K (x_a_Unreadable___init__ K) = superV "__init__" "Unreadable.__init__" s_Unreadable___init__) q1_Unreadable___init__ q2_Unreadable___init__
  obtain ⟨_, _, _, _, _, ca_Unreadable___init__, cb_Unreadable___init__⟩ := file_ex q3_Unreadable___init__
  have ce_Unreadable___init__ : (((PySem.Challenge.rw_onlylooks_k92_errors_and_limits).prog.main.file : Str) == (PySem.Challenge.rw_onlylooks_k92_errors_and_limits).prog.main.file) = true := by simp
  have tp_Unreadable___init__ : ((PySem.Challenge.rw_onlylooks_k92_errors_and_limits).prog.main.scope.names.lookup ("super" : Str)).isSome = false := by first | rfl | decide +kernel
  obtain ⟨_, _, _, _, _, _, _, _, _, _, _, l_UnknownTable___init__, lc_UnknownTable___init__⟩ := sup_ex (at_list fv 12 rfl rfl : fnV K (x_a_UnknownTable___init__ K) = superV "__init__" "UnknownTable.__init__" s_UnknownTable___init__) q1_UnknownTable___init__ q2_UnknownTable___init__
  obtain ⟨_, _, _, _, _, ca_UnknownTable___init__, cb_UnknownTable___init__⟩ := file_ex q3_UnknownTable___init__
  have ce_UnknownTable___init__ : (((PySem.Challenge.rw_onlylooks_k92_errors_and_limits).prog.main.file : Str) == (PySem.Challenge.rw_onlylooks_k92_errors_and_limits).prog.main.file) = true := by simp
  have tp_UnknownTable___init__ : ((PySem.Challenge.rw_onlylooks_k92_errors_and_limits).prog.main.scope.names.lookup ("super" : Str)).isSome = false := by first | rfl | decide +kernel
  obtain ⟨_, _, _, _, _, _, _, _, _, _, _, l_UnknownColumn___init__, lc_UnknownColumn___init__⟩ := sup_ex (at_list fv 13 rfl rfl : fnV K (x_a_UnknownColumn___init__ K) = superV "__init__" "UnknownColumn.__init__" s_UnknownColumn___init__) q1_UnknownColumn___init__ q2_UnknownColumn___init__
  obtain ⟨_, _, _, _, _, ca_UnknownColumn___init__, cb_UnknownColumn___init__⟩ := file_ex q3_UnknownColumn___init__
  have ce_UnknownColumn___init__ : (((PySem.Challenge.rw_onlylooks_k92_errors_and_limits).prog.main.file : Str) == (PySem.Challenge.rw_onlylooks_k92_errors_and_limits).prog.main.file) = true := by simp
  have tp_UnknownColumn___init__ : ((PySem.Challenge.rw_onlylooks_k92_errors_and_limits).prog.main.scope.names.lookup ("super" : Str)).isSome = false := by first | rfl | decide +kernel
  obtain ⟨_, _, _, _, _, _, _, _, _, _, _, l_OutOfRange___init__, lc_OutOfRange___init__⟩ := sup_ex (at_list fv 14 rfl rfl : fnV K (x_a_OutOfRange___init__ K) = superV "__init__" "OutOfRange.__init__" s_OutOfRange___init__) q1_OutOfRange___init__ q2_OutOfRange___init__
  obtain ⟨_, _, _, _, _, ca_OutOfRange___init__, cb_OutOfRange___init__⟩ := file_ex q3_OutOfRange___init__
  have ce_OutOfRange___init__ : (((PySem.Challenge.rw_onlylooks_k92_errors_and_limits).prog.main.file : Str) == (PySem.Challenge.rw_onlylooks_k92_errors_and_limits).prog.main.file) = true := by simp
  have tp_OutOfRange___init__ : ((PySem.Challenge.rw_onlylooks_k92_errors_and_limits).prog.main.scope.names.lookup ("super" : Str)).isSome = false := by first | rfl | decide +kernel
  obtain ⟨_, _, _, _, _, _, _, _, _, _, _, l_NoAnswer___init__, lc_NoAnswer___init__⟩ := sup_ex (at_list fv 15 rfl rfl : fnV K (x_a_NoAnswer___init__ K) = superV "__init__" "NoAnswer.__init__" s_NoAnswer___init__) q1_NoAnswer___init__ q2_NoAnswer___init__
  obtain ⟨_, _, _, _, _, ca_NoAnswer___init__, cb_NoAnswer___init__⟩ := file_ex q3_NoAnswer___init__
  have ce_NoAnswer___init__ : (((PySem.Challenge.rw_onlylooks_k92_errors_and_limits).prog.main.file : Str) == (PySem.Challenge.rw_onlylooks_k92_errors_and_limits).prog.main.file) = true := by simp
  have tp_NoAnswer___init__ : ((PySem.Challenge.rw_onlylooks_k92_errors_and_limits).prog.main.scope.names.lookup ("super" : Str)).isSome = false := by first | rfl | decide +kernel
  obtain ⟨_, _, _, _, _, _, _, _, _, _, _, l_NoCase___init__, lc_NoCase___init__⟩ := sup_ex (at_list fv 16 rfl rfl : fnV K (x_a_NoCase___init__ K) = superV "__init__" "NoCase.__init__" s_NoCase___init__) q1_NoCase___init__ q2_NoCase___init__
  obtain ⟨_, _, _, _, _, ca_NoCase___init__, cb_NoCase___init__⟩ := file_ex q3_NoCase___init__
  have ce_NoCase___init__ : (((PySem.Challenge.rw_onlylooks_k92_errors_and_limits).prog.main.file : Str) == (PySem.Challenge.rw_onlylooks_k92_errors_and_limits).prog.main.file) = true := by simp
  have tp_NoCase___init__ : ((PySem.Challenge.rw_onlylooks_k92_errors_and_limits).prog.main.scope.names.lookup ("super" : Str)).isSome = false := by first | rfl | decide +kernel
  obtain ⟨_, _, _, _, _, _, _, _, _, _, _, l_NoBranch___init__, lc_NoBranch___init__⟩ := sup_ex (at_list fv 17 rfl rfl : fnV K (x_a_NoBranch___init__ K) = superV "__init__" "NoBranch.__init__" s_NoBranch___init__) q1_NoBranch___init__ q2_NoBranch___init__
  obtain ⟨_, _, _, _, _, ca_NoBranch___init__, cb_NoBranch___init__⟩ := file_ex q3_NoBranch___init__
  have ce_NoBranch___init__ : (((PySem.Challenge.rw_onlylooks_k92_errors_and_limits).prog.main.file : Str) == (PySem.Challenge.rw_onlylooks_k92_errors_and_limits).prog.main.file) = true := by simp
  have tp_NoBranch___init__ : ((PySem.Challenge.rw_onlylooks_k92_errors_and_limits).prog.main.scope.names.lookup ("super" : Str)).isSome = false := by first | rfl | decide +kernel
  obtain ⟨_, _, _, _, _, _, _, _, _, _, _, l_TooMany___init__, lc_TooMany___init__⟩ := sup_ex (at_list fv 18 rfl rfl : fnV K (x_a_TooMany___init__ K) = superV "__init__" "TooMany.__init__" s_TooMany___init__) q1_TooMany___init__ q2_TooMany___init__
  obtain ⟨_, _, _, _, _, ca_TooMany___init__, cb_TooMany___init__⟩ := file_ex q3_TooMany___init__
  have ce_TooMany___init__ : (((PySem.Challenge.rw_onlylooks_k92_errors_and_limits).prog.main.file : Str) == (PySem.Challenge.rw_onlylooks_k92_errors_and_limits).prog.main.file) = true := by simp
  have tp_TooMany___init__ : ((PySem.Challenge.rw_onlylooks_k92_errors_and_limits).prog.main.scope.names.lookup ("super" : Str)).isSome = false := by first | rfl | decide +kernel
  obtain ⟨_, _, _, _, _, _, _, _, _, _, _, l_TooDear___init__, lc_TooDear___init__⟩ := sup_ex (at_list fv 19 rfl rfl : fnV K (x_a_TooDear___init__ K) = superV "__init__" "TooDear.__init__" s_TooDear___init__) q1_TooDear___init__ q2_TooDear___init__
  obtain ⟨_, _, _, _, _, ca_TooDear___init__, cb_TooDear___init__⟩ := file_ex q3_TooDear___init__
  have ce_TooDear___init__ : (((PySem.Challenge.rw_onlylooks_k92_errors_and_limits).prog.main.file : Str) == (PySem.Challenge.rw_onlylooks_k92_errors_and_limits).prog.main.file) = true := by simp
  have tp_TooDear___init__ : ((PySem.Challenge.rw_onlylooks_k92_errors_and_limits).prog.main.scope.names.lookup ("super" : Str)).isSome = false := by first | rfl | decide +kernel
  obtain ⟨_, _, _, _, _, _, _, _, _, _, _, l_Broken___init__, lc_Broken___init__⟩ := sup_ex (at_list fv 20 rfl rfl : fnV K (x_a_Broken___init__ K) = superV "__init__" "Broken.__init__" s_Broken___init__) q1_Broken___init__ q2_Broken___init__
  obtain ⟨_, _, _, _, _, ca_Broken___init__, cb_Broken___init__⟩ := file_ex q3_Broken___init__
  have ce_Broken___init__ : (((PySem.Challenge.rw_onlylooks_k92_errors_and_limits).prog.main.file : Str) == (PySem.Challenge.rw_onlylooks_k92_errors_and_limits).prog.main.file) = true := by simp
  have tp_Broken___init__ : ((PySem.Challenge.rw_onlylooks_k92_errors_and_limits).prog.main.scope.names.lookup ("super" : Str)).isSome = false := by first | rfl | decide +kernel
  obtain ⟨_, _, _, _, _, _, _, _, _, _, _, l_Unfit___init__, lc_Unfit___init__⟩ := sup_ex (at_list fv 21 rfl rfl : fnV K (x_a_Unfit___init__ K) = superV "__init__" "Unfit.__init__" s_Unfit___init__) q1_Unfit___init__ q2_Unfit___init__
  obtain ⟨_, _, _, _, _, ca_Unfit___init__, cb_Unfit___init__⟩ := file_ex q3_Unfit___init__
  have ce_Unfit___init__ : (((PySem.Challenge.rw_onlylooks_k92_errors_and_limits).prog.main.file : Str) == (PySem.Challenge.rw_onlylooks_k92_errors_and_limits).prog.main.file) = true := by simp
  have tp_Unfit___init__ : ((PySem.Challenge.rw_onlylooks_k92_errors_and_limits).prog.main.scope.names.lookup ("super" : Str)).isSome = false := by first | rfl | decide +kernel
  obtain ⟨_, _, _, _, _, _, _, _, _, _, _, l_Refused___init__, lc_Refused___init__⟩ := sup_ex (at_list fv 22 rfl rfl : fnV K (x_a_Refused___init__ K) = superV "__init__" "Refused.__init__" s_Refused___init__) q1_Refused___init__ q2_Refused___init__
  obtain ⟨_, _, _, _, _, ca_Refused___init__, cb_Refused___init__⟩ := file_ex q3_Refused___init__
  have ce_Refused___init__ : (((PySem.Challenge.rw_onlylooks_k92_errors_and_limits).prog.main.file : Str) == (PySem.Challenge.rw_onlylooks_k92_errors_and_limits).prog.main.file) = true := by simp
  have tp_Refused___init__ : ((PySem.Challenge.rw_onlylooks_k92_errors_and_limits).prog.main.scope.names.lookup ("super" : Str)).isSome = false := by first | rfl | decide +kernel
  obtain ⟨_, _, _, _, _, _, _, _, _, _, _, l_LookFailed___init__, lc_LookFailed___init__⟩ := sup_ex (at_list fv 23 rfl rfl : fnV K (x_a_LookFailed___init__ K) = superV "__init__" "LookFailed.__init__" s_LookFailed___init__) q1_LookFailed___init__ q2_LookFailed___init__
  obtain ⟨_, _, _, _, _, ca_LookFailed___init__, cb_LookFailed___init__⟩ := file_ex q3_LookFailed___init__
  have ce_LookFailed___init__ : (((PySem.Challenge.rw_onlylooks_k92_errors_and_limits).prog.main.file : Str) == (PySem.Challenge.rw_onlylooks_k92_errors_and_limits).prog.main.file) = true := by simp
  have tp_LookFailed___init__ : ((PySem.Challenge.rw_onlylooks_k92_errors_and_limits).prog.main.scope.names.lookup ("super" : Str)).isSome = false := by first | rfl | decide +kernel
  obtain ⟨_, _, _, _, _, _, _, _, _, _, _, l_NoLook___init__, lc_NoLook___init__⟩ := sup_ex (at_list fv 24 rfl rfl : fnV K (x_a_NoLook___init__ K) = superV "__init__" "NoLook.__init__" s_NoLook___init__) q1_NoLook___init__ q2_NoLook___init__
  obtain ⟨_, _, _, _, _, ca_NoLook___init__, cb_NoLook___init__⟩ := file_ex q3_NoLook___init__
  have ce_NoLook___init__ : (((PySem.Challenge.rw_onlylooks_k92_errors_and_limits).prog.main.file : Str) == (PySem.Challenge.rw_onlylooks_k92_errors_and_limits).prog.main.file) = true := by simp
  have tp_NoLook___init__ : ((PySem.Challenge.rw_onlylooks_k92_errors_and_limits).prog.main.scope.names.lookup ("super" : Str)).isSome = false := by first | rfl | decide +kernel
  obtain ⟨_, _, _, _, _, _, _, _, l__law_pen⟩ := fn_ex (at_list fv 25 rfl rfl : fnV K (x_a__law_pen K) = plainV "_law_pen" "_law_pen" s__law_pen)
  obtain ⟨_, _, _, _, _, _, _, _, l__law_draw⟩ := fn_ex (at_list fv 26 rfl rfl : fnV K (x_a__law_draw K) = plainV "_law_draw" "_law_draw" s__law_draw)
  obtain ⟨_, _, _, _, _, _, _, _, l__law_pick⟩ := fn_ex (at_list fv 27 rfl rfl : fnV K (x_a__law_pick K) = plainV "_law_pick" "_law_pick" s__law_pick)
  obtain ⟨_, _, _, _, _, _, _, _, l__law_any_value⟩ := fn_ex (at_list fv 28 rfl rfl : fnV K (x_a__law_any_value K) = plainV "_law_any_value" "_law_any_value" s__law_any_value)
  obtain ⟨_, _, _, _, _, _, _, _, l__law_some_errors⟩ := fn_ex (at_list fv 29 rfl rfl : fnV K (x_a__law_some_errors K) = plainV "_law_some_errors" "_law_some_errors" s__law_some_errors)
  obtain ⟨_, _, _, _, _, _, _, _, l__law_other_errors⟩ := fn_ex (at_list fv 30 rfl rfl : fnV K (x_a__law_other_errors K) = plainV "_law_other_errors" "_law_other_errors" s__law_other_errors)
  obtain ⟨_, _, _, _, _, _, _, _, l__law_classes⟩ := fn_ex (at_list fv 31 rfl rfl : fnV K (x_a__law_classes K) = plainV "_law_classes" "_law_classes" s__law_classes)
  obtain ⟨_, _, _, _, _, _, _, _, l__law_sorts⟩ := fn_ex (at_list fv 32 rfl rfl : fnV K (x_a__law_sorts K) = plainV "_law_sorts" "_law_sorts" s__law_sorts)
  obtain ⟨_, _, _, _, _, _, _, _, l_law⟩ := fn_ex (at_list fv 33 rfl rfl : fnV K (x_a_law K) = plainV "law" "law" s_law)
  obtain ⟨_, y_MAX_WORD⟩ := int_ex Yy_MAX_WORD
  obtain ⟨_, y_MAX_TABLES⟩ := int_ex Yy_MAX_TABLES
  obtain ⟨_, y_MAX_COLUMNS⟩ := int_ex Yy_MAX_COLUMNS
  obtain ⟨_, y_MAX_STATEMENTS⟩ := int_ex Yy_MAX_STATEMENTS
  obtain ⟨_, y_MAX_LEAST⟩ := int_ex Yy_MAX_LEAST
  obtain ⟨_, y_MAX_MOST⟩ := int_ex Yy_MAX_MOST
  obtain ⟨_, y_MAX_ENTRIES⟩ := int_ex Yy_MAX_ENTRIES
  obtain ⟨_, y_MAX_WANTED⟩ := int_ex Yy_MAX_WANTED
  obtain ⟨_, y_MAX_PAPER⟩ := int_ex Yy_MAX_PAPER
  obtain ⟨_, y_MAX_ANSWERS⟩ := int_ex Yy_MAX_ANSWERS
  obtain ⟨_, y_MAX_OPEN⟩ := int_ex Yy_MAX_OPEN
  obtain ⟨_, y_MAX_NAMES⟩ := int_ex Yy_MAX_NAMES
  exact all_mk (l := PySem.Challenge.rw_onlylooks_k92_errors_and_limits) (w := w) X G hfa aC_InvalidTable aC_InvalidSchema aC_InvalidRow aC_OtherSchema aC_InvalidRule aC_Misfit aC_Circle aC_InvalidFact aC_InvalidChange aC_InvalidAnswer aC_InvalidTemplate aC_InvalidNames aC_InvalidPair aC_InvalidLimit aC_Unreadable aC_NoLine aC_UnknownTable aC_UnknownColumn aC_OutOfRange aC_NoAnswer aC_NoCase aC_NoBranch aC_Nothing aC_TooMany aC_TooDear aC_Broken aC_Unfit aC_NeverFits aC_Refused aC_LookFailed aC_NoLook h_InvalidTable___init__ l_InvalidTable___init__ lc_InvalidTable___init__ c_InvalidTable___init__ k_InvalidTable___init__ if_InvalidTable___init__ ca_InvalidTable___init__ cb_InvalidTable___init__ ce_InvalidTable___init__ tp_InvalidTable___init__ su_InvalidTable___init__ op_InvalidTable___init__ me_InvalidTable___init__ h_InvalidTable___init__ ei_InvalidTable eo_InvalidTable ed_InvalidTable esa_InvalidTable eb_InvalidTable es_InvalidTable et_InvalidTable kc_InvalidTable tk_InvalidTable_argument h_InvalidRow___init__ l_InvalidRow___init__ lc_InvalidRow___init__ c_InvalidRow___init__ k_InvalidRow___init__ if_InvalidRow___init__ ca_InvalidRow___init__ cb_InvalidRow___init__ ce_InvalidRow___init__ tp_InvalidRow___init__ su_InvalidRow___init__ op_InvalidRow___init__ me_InvalidRow___init__ h_InvalidRow___init__ ei_InvalidRow eo_InvalidRow ed_InvalidRow esa_InvalidRow eb_InvalidRow es_InvalidRow et_InvalidRow kc_InvalidRow tk_InvalidRow_value h_InvalidRule___init__ l_InvalidRule___init__ lc_InvalidRule___init__ c_InvalidRule___init__ k_InvalidRule___init__ if_InvalidRule___init__ ca_InvalidRule___init__ cb_InvalidRule___init__ ce_InvalidRule___init__ tp_InvalidRule___init__ su_InvalidRule___init__ op_InvalidRule___init__ me_InvalidRule___init__ h_InvalidRule___init__ ei_InvalidRule eo_InvalidRule ed_InvalidRule esa_InvalidRule eb_InvalidRule es_InvalidRule et_InvalidRule kc_InvalidRule tk_InvalidRule_argument h_Misfit___init__ l_Misfit___init__ lc_Misfit___init__ c_Misfit___init__ k_Misfit___init__ if_Misfit___init__ ca_Misfit___init__ cb_Misfit___init__ ce_Misfit___init__ tp_Misfit___init__ su_Misfit___init__ op_Misfit___init__ me_Misfit___init__ h_Misfit___init__ ei_Misfit eo_Misfit ed_Misfit esa_Misfit eb_Misfit es_Misfit et_Misfit kc_Misfit tk_Misfit_index h_Circle___init__ l_Circle___init__ lc_Circle___init__ c_Circle___init__ k_Circle___init__ if_Circle___init__ ca_Circle___init__ cb_Circle___init__ ce_Circle___init__ tp_Circle___init__ su_Circle___init__ op_Circle___init__ me_Circle___init__ h_Circle___init__ ei_Circle eo_Circle ed_Circle esa_Circle eb_Circle es_Circle et_Circle kc_Circle tk_Circle_value h_InvalidFact___init__ l_InvalidFact___init__ lc_InvalidFact___init__ c_InvalidFact___init__ k_InvalidFact___init__ if_InvalidFact___init__ ca_InvalidFact___init__ cb_InvalidFact___init__ ce_InvalidFact___init__ tp_InvalidFact___init__ su_InvalidFact___init__ op_InvalidFact___init__ me_InvalidFact___init__ h_InvalidFact___init__ ei_InvalidFact eo_InvalidFact ed_InvalidFact esa_InvalidFact eb_InvalidFact es_InvalidFact et_InvalidFact kc_InvalidFact tk_InvalidFact_index h_InvalidChange___init__ l_InvalidChange___init__ lc_InvalidChange___init__ c_InvalidChange___init__ k_InvalidChange___init__ if_InvalidChange___init__ ca_InvalidChange___init__ cb_InvalidChange___init__ ce_InvalidChange___init__ tp_InvalidChange___init__ su_InvalidChange___init__ op_InvalidChange___init__ me_InvalidChange___init__ h_InvalidChange___init__ ei_InvalidChange eo_InvalidChange ed_InvalidChange esa_InvalidChange eb_InvalidChange es_InvalidChange et_InvalidChange kc_InvalidChange tk_InvalidChange_index h_InvalidAnswer___init__ l_InvalidAnswer___init__ lc_InvalidAnswer___init__ c_InvalidAnswer___init__ k_InvalidAnswer___init__ if_InvalidAnswer___init__ ca_InvalidAnswer___init__ cb_InvalidAnswer___init__ ce_InvalidAnswer___init__ tp_InvalidAnswer___init__ su_InvalidAnswer___init__ op_InvalidAnswer___init__ me_InvalidAnswer___init__ h_InvalidAnswer___init__ ei_InvalidAnswer eo_InvalidAnswer ed_InvalidAnswer esa_InvalidAnswer eb_InvalidAnswer es_InvalidAnswer et_InvalidAnswer kc_InvalidAnswer tk_InvalidAnswer_value h_InvalidTemplate___init__ l_InvalidTemplate___init__ lc_InvalidTemplate___init__ c_InvalidTemplate___init__ k_InvalidTemplate___init__ if_InvalidTemplate___init__ ca_InvalidTemplate___init__ cb_InvalidTemplate___init__ ce_InvalidTemplate___init__ tp_InvalidTemplate___init__ su_InvalidTemplate___init__ op_InvalidTemplate___init__ me_InvalidTemplate___init__ h_InvalidTemplate___init__ ei_InvalidTemplate eo_InvalidTemplate ed_InvalidTemplate esa_InvalidTemplate eb_InvalidTemplate es_InvalidTemplate et_InvalidTemplate kc_InvalidTemplate tk_InvalidTemplate_index h_InvalidNames___init__ l_InvalidNames___init__ lc_InvalidNames___init__ c_InvalidNames___init__ k_InvalidNames___init__ if_InvalidNames___init__ ca_InvalidNames___init__ cb_InvalidNames___init__ ce_InvalidNames___init__ tp_InvalidNames___init__ su_InvalidNames___init__ op_InvalidNames___init__ me_InvalidNames___init__ h_InvalidNames___init__ ei_InvalidNames eo_InvalidNames ed_InvalidNames esa_InvalidNames eb_InvalidNames es_InvalidNames et_InvalidNames kc_InvalidNames tk_InvalidNames_value h_InvalidLimit___init__ l_InvalidLimit___init__ lc_InvalidLimit___init__ c_InvalidLimit___init__ k_InvalidLimit___init__ if_InvalidLimit___init__ ca_InvalidLimit___init__ cb_InvalidLimit___init__ ce_InvalidLimit___init__ tp_InvalidLimit___init__ su_InvalidLimit___init__ op_InvalidLimit___init__ me_InvalidLimit___init__ h_InvalidLimit___init__ ei_InvalidLimit eo_InvalidLimit ed_InvalidLimit esa_InvalidLimit eb_InvalidLimit es_InvalidLimit et_InvalidLimit kc_InvalidLimit tk_InvalidLimit_value h_Unreadable___init__ l_Unreadable___init__ lc_Unreadable___init__ c_Unreadable___init__ k_Unreadable___init__ if_Unreadable___init__ ca_Unreadable___init__ cb_Unreadable___init__ ce_Unreadable___init__ tp_Unreadable___init__ su_Unreadable___init__ op_Unreadable___init__ me_Unreadable___init__ h_Unreadable___init__ ei_Unreadable eo_Unreadable ed_Unreadable esa_Unreadable eb_Unreadable es_Unreadable et_Unreadable kc_Unreadable tk_Unreadable_index h_UnknownTable___init__ l_UnknownTable___init__ lc_UnknownTable___init__ c_UnknownTable___init__ k_UnknownTable___init__ if_UnknownTable___init__ ca_UnknownTable___init__ cb_UnknownTable___init__ ce_UnknownTable___init__ tp_UnknownTable___init__ su_UnknownTable___init__ op_UnknownTable___init__ me_UnknownTable___init__ h_UnknownTable___init__ ei_UnknownTable eo_UnknownTable ed_UnknownTable esa_UnknownTable eb_UnknownTable es_UnknownTable et_UnknownTable kc_UnknownTable tk_UnknownTable_value h_UnknownColumn___init__ l_UnknownColumn___init__ lc_UnknownColumn___init__ c_UnknownColumn___init__ k_UnknownColumn___init__ if_UnknownColumn___init__ ca_UnknownColumn___init__ cb_UnknownColumn___init__ ce_UnknownColumn___init__ tp_UnknownColumn___init__ su_UnknownColumn___init__ op_UnknownColumn___init__ me_UnknownColumn___init__ h_UnknownColumn___init__ ei_UnknownColumn eo_UnknownColumn ed_UnknownColumn esa_UnknownColumn eb_UnknownColumn es_UnknownColumn et_UnknownColumn kc_UnknownColumn tk_UnknownColumn_value h_OutOfRange___init__ l_OutOfRange___init__ lc_OutOfRange___init__ c_OutOfRange___init__ k_OutOfRange___init__ if_OutOfRange___init__ ca_OutOfRange___init__ cb_OutOfRange___init__ ce_OutOfRange___init__ tp_OutOfRange___init__ su_OutOfRange___init__ op_OutOfRange___init__ me_OutOfRange___init__ h_OutOfRange___init__ ei_OutOfRange eo_OutOfRange ed_OutOfRange esa_OutOfRange eb_OutOfRange es_OutOfRange et_OutOfRange kc_OutOfRange tk_OutOfRange_value h_NoAnswer___init__ l_NoAnswer___init__ lc_NoAnswer___init__ c_NoAnswer___init__ k_NoAnswer___init__ if_NoAnswer___init__ ca_NoAnswer___init__ cb_NoAnswer___init__ ce_NoAnswer___init__ tp_NoAnswer___init__ su_NoAnswer___init__ op_NoAnswer___init__ me_NoAnswer___init__ h_NoAnswer___init__ ei_NoAnswer eo_NoAnswer ed_NoAnswer esa_NoAnswer eb_NoAnswer es_NoAnswer et_NoAnswer kc_NoAnswer tk_NoAnswer_value h_NoCase___init__ l_NoCase___init__ lc_NoCase___init__ c_NoCase___init__ k_NoCase___init__ if_NoCase___init__ ca_NoCase___init__ cb_NoCase___init__ ce_NoCase___init__ tp_NoCase___init__ su_NoCase___init__ op_NoCase___init__ me_NoCase___init__ h_NoCase___init__ ei_NoCase eo_NoCase ed_NoCase esa_NoCase eb_NoCase es_NoCase et_NoCase kc_NoCase tk_NoCase_case h_NoBranch___init__ l_NoBranch___init__ lc_NoBranch___init__ c_NoBranch___init__ k_NoBranch___init__ if_NoBranch___init__ ca_NoBranch___init__ cb_NoBranch___init__ ce_NoBranch___init__ tp_NoBranch___init__ su_NoBranch___init__ op_NoBranch___init__ me_NoBranch___init__ h_NoBranch___init__ ei_NoBranch eo_NoBranch ed_NoBranch esa_NoBranch eb_NoBranch es_NoBranch et_NoBranch kc_NoBranch tk_NoBranch_value h_TooMany___init__ l_TooMany___init__ lc_TooMany___init__ c_TooMany___init__ k_TooMany___init__ if_TooMany___init__ ca_TooMany___init__ cb_TooMany___init__ ce_TooMany___init__ tp_TooMany___init__ su_TooMany___init__ op_TooMany___init__ me_TooMany___init__ h_TooMany___init__ ei_TooMany eo_TooMany ed_TooMany esa_TooMany eb_TooMany es_TooMany et_TooMany kc_TooMany tk_TooMany_limit h_TooDear___init__ l_TooDear___init__ lc_TooDear___init__ c_TooDear___init__ k_TooDear___init__ if_TooDear___init__ ca_TooDear___init__ cb_TooDear___init__ ce_TooDear___init__ tp_TooDear___init__ su_TooDear___init__ op_TooDear___init__ me_TooDear___init__ h_TooDear___init__ ei_TooDear eo_TooDear ed_TooDear esa_TooDear eb_TooDear es_TooDear et_TooDear kc_TooDear tk_TooDear_number h_Broken___init__ l_Broken___init__ lc_Broken___init__ c_Broken___init__ k_Broken___init__ if_Broken___init__ ca_Broken___init__ cb_Broken___init__ ce_Broken___init__ tp_Broken___init__ su_Broken___init__ op_Broken___init__ me_Broken___init__ h_Broken___init__ ei_Broken eo_Broken ed_Broken esa_Broken eb_Broken es_Broken et_Broken kc_Broken tk_Broken_index tk_Broken_spot h_Unfit___init__ l_Unfit___init__ lc_Unfit___init__ c_Unfit___init__ k_Unfit___init__ if_Unfit___init__ ca_Unfit___init__ cb_Unfit___init__ ce_Unfit___init__ tp_Unfit___init__ su_Unfit___init__ op_Unfit___init__ me_Unfit___init__ h_Unfit___init__ ei_Unfit eo_Unfit ed_Unfit esa_Unfit eb_Unfit es_Unfit et_Unfit kc_Unfit tk_Unfit_index h_Refused___init__ l_Refused___init__ lc_Refused___init__ c_Refused___init__ k_Refused___init__ if_Refused___init__ ca_Refused___init__ cb_Refused___init__ ce_Refused___init__ tp_Refused___init__ su_Refused___init__ op_Refused___init__ me_Refused___init__ h_Refused___init__ ei_Refused eo_Refused ed_Refused esa_Refused eb_Refused es_Refused et_Refused kc_Refused tk_Refused_change h_LookFailed___init__ l_LookFailed___init__ lc_LookFailed___init__ c_LookFailed___init__ k_LookFailed___init__ if_LookFailed___init__ ca_LookFailed___init__ cb_LookFailed___init__ ce_LookFailed___init__ tp_LookFailed___init__ su_LookFailed___init__ op_LookFailed___init__ me_LookFailed___init__ h_LookFailed___init__ ei_LookFailed eo_LookFailed ed_LookFailed esa_LookFailed eb_LookFailed es_LookFailed et_LookFailed kc_LookFailed tk_LookFailed_number h_NoLook___init__ l_NoLook___init__ lc_NoLook___init__ c_NoLook___init__ k_NoLook___init__ if_NoLook___init__ ca_NoLook___init__ cb_NoLook___init__ ce_NoLook___init__ tp_NoLook___init__ su_NoLook___init__ op_NoLook___init__ me_NoLook___init__ h_NoLook___init__ ei_NoLook eo_NoLook ed_NoLook esa_NoLook eb_NoLook es_NoLook et_NoLook kc_NoLook tk_NoLook_value h__law_pen l__law_pen c__law_pen k__law_pen h__law_draw l__law_draw c__law_draw k__law_draw h__law_pick l__law_pick c__law_pick k__law_pick h__law_any_value l__law_any_value c__law_any_value k__law_any_value h__law_some_errors l__law_some_errors c__law_some_errors k__law_some_errors h__law_other_errors l__law_other_errors c__law_other_errors k__law_other_errors h__law_classes l__law_classes c__law_classes k__law_classes h__law_sorts l__law_sorts c__law_sorts k__law_sorts h_law l_law c_law k_law x0_InvalidSchema kc_InvalidSchema eb_InvalidSchema et_InvalidSchema x0_OtherSchema kc_OtherSchema eb_OtherSchema et_OtherSchema x0_InvalidPair kc_InvalidPair eb_InvalidPair et_InvalidPair x0_NoLine kc_NoLine eb_NoLine et_NoLine x0_Nothing kc_Nothing eb_Nothing et_Nothing x0_NeverFits kc_NeverFits eb_NeverFits et_NeverFits b_isinstance b_len b_list b_zip b_range b_int b_abs b_repr b_min b_super b_ValueError b_LookupError b_OverflowError b_RuntimeError b_IndexError b_KeyError b_NotImplementedError y_MAX_WORD y_MAX_TABLES y_MAX_COLUMNS y_MAX_STATEMENTS y_MAX_LEAST y_MAX_MOST y_MAX_ENTRIES y_MAX_WANTED y_MAX_PAPER y_MAX_ANSWERS y_MAX_OPEN y_MAX_NAMES kM kB kD cg_InvalidTable cn_InvalidTable ch_InvalidTable cm_InvalidTable io_n io_t cf_InvalidTable_argument cg_InvalidSchema cn_InvalidSchema ch_InvalidSchema cm_InvalidSchema ed_InvalidSchema cg_InvalidRow cn_InvalidRow ch_InvalidRow cm_InvalidRow cf_InvalidRow_value cg_OtherSchema cn_OtherSchema ch_OtherSchema cm_OtherSchema ed_OtherSchema cg_InvalidRule cn_InvalidRule ch_InvalidRule cm_InvalidRule cf_InvalidRule_argument cg_Misfit cn_Misfit ch_Misfit cm_Misfit cf_Misfit_index cg_Circle cn_Circle ch_Circle cm_Circle cf_Circle_value cg_InvalidFact cn_InvalidFact ch_InvalidFact cm_InvalidFact cf_InvalidFact_index cg_InvalidChange cn_InvalidChange ch_InvalidChange cm_InvalidChange cf_InvalidChange_index cg_InvalidAnswer cn_InvalidAnswer ch_InvalidAnswer cm_InvalidAnswer cf_InvalidAnswer_value cg_InvalidTemplate cn_InvalidTemplate ch_InvalidTemplate cm_InvalidTemplate cf_InvalidTemplate_index cg_InvalidNames cn_InvalidNames ch_InvalidNames cm_InvalidNames cf_InvalidNames_value cg_InvalidPair cn_InvalidPair ch_InvalidPair cm_InvalidPair ed_InvalidPair cg_InvalidLimit cn_InvalidLimit ch_InvalidLimit cm_InvalidLimit cf_InvalidLimit_value cg_Unreadable cn_Unreadable ch_Unreadable cm_Unreadable cf_Unreadable_index cg_NoLine cn_NoLine ch_NoLine cm_NoLine ed_NoLine cg_UnknownTable cn_UnknownTable ch_UnknownTable cm_UnknownTable cf_UnknownTable_value cg_UnknownColumn cn_UnknownColumn ch_UnknownColumn cm_UnknownColumn cf_UnknownColumn_value cg_OutOfRange cn_OutOfRange ch_OutOfRange cm_OutOfRange cf_OutOfRange_value cg_NoAnswer cn_NoAnswer ch_NoAnswer cm_NoAnswer cf_NoAnswer_value cg_NoCase cn_NoCase ch_NoCase cm_NoCase cf_NoCase_case cg_NoBranch cn_NoBranch ch_NoBranch cm_NoBranch cf_NoBranch_value cg_Nothing cn_Nothing ch_Nothing cm_Nothing ed_Nothing cg_TooMany cn_TooMany ch_TooMany cm_TooMany cf_TooMany_limit cg_TooDear cn_TooDear ch_TooDear cm_TooDear cf_TooDear_number cg_Broken cn_Broken ch_Broken cm_Broken cf_Broken_index cf_Broken_spot cg_Unfit cn_Unfit ch_Unfit cm_Unfit cf_Unfit_index cg_NeverFits cn_NeverFits ch_NeverFits cm_NeverFits ed_NeverFits cg_Refused cn_Refused ch_Refused cm_Refused cf_Refused_change cg_LookFailed cn_LookFailed ch_LookFailed cm_LookFailed cf_LookFailed_number cg_NoLook cn_NoLook ch_NoLook cm_NoLook cf_NoLook_value
end Q
open PySem PySem.W PySem.Calls PyProof.Rows
set_option maxRecDepth 100000 in
set_option maxHeartbeats 0 in
theorem PySem.Challenge.cw_onlylooks_k92_errors_and_limits_holds : PySem.Challenge.rw_onlylooks_k92_errors_and_limits.Holds := by
  w_on; o_law
  refine HandSHeadRun.head_any (r := OpenLaw.row PySem.Challenge.rw_onlylooks_k92_errors_and_limits) (q := Q.hq) (H := Q.hk) (ob := Q.hob) (M := 9000) (loose := Q.hnames) (d := HandSHeadRun.topDef (OpenLaw.row PySem.Challenge.rw_onlylooks_k92_errors_and_limits).prog 53) (kwd := []) Q.hob_eq (by kernel_rfl) (fun s => by kernel_rfl) Q.hrun (by kernel_rfl) (by kernel_rfl) (by kernel_rfl) (by rfl) (by first | assumption | decide +kernel) (by decide +kernel) ⟨rfl, rfl, rfl, rfl, rfl, by decide +kernel⟩ ?hw ?hc
  case hw => w_witness2
  case hc =>
    refine Q.walkGE (l := PySem.Challenge.rw_onlylooks_k92_errors_and_limits) 6 ⟨rfl, by decide, by decide⟩ rfl (by kernel_rfl) (by first | rfl | decide +kernel) ?F
    intro w mg fa h Y G hmg0
    obtain ⟨K, KX, c, fv⟩ := Y
    have hmg : mg ("law" : PySem.Str) = some (.ref fa) := by
      have e : (HandSHeadRun.topDef (OpenLaw.row PySem.Challenge.rw_onlylooks_k92_errors_and_limits).prog 53).name = ("law" : PySem.Str) := by kernel_rfl
      rw [← e]
      exact hmg0
    obtain ⟨fd, hb, hF⟩ := Q.hfacts (w := w) KX G hmg c fv
    exact ⟨K, fd, KX, hb, hF⟩
