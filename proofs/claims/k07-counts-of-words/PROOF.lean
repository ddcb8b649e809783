import PyProof.Rows.All
import Wide.All
import OpenK.AllK
import Wide.FinOn
import HandS.ForMost
import HandS.Walk
import HandS.IsInst
import HandS.Star
import HandS.DictComp
import HandS.Zip
import HandS.Wide
import HandS.Flow
import HandS.Style
import HandS.Conv
import HandS.TupAny
import HandS.Exc
import HandS.ExcOwn
import HandS.WordsExc
import HandS.Deep
import HandS.Iter
import HandS.Comp
import HandS.TupLen
import HandS.Text
import HandS.StrMore
import HandS.OwnEq
import HandS.Property
import KE.KOpsOwn
import KE.KDictSum
import HandS.More
import HandS.RaiseMore
import PySem.Challenge.RW_onlylooks_k07_counts_of_words
set_option Elab.async false
set_option linter.all false
set_option maxRecDepth 100000
set_option maxHeartbeats 4000000
namespace Q
open PySem L2

def small : Str := "abcdefghijklmnopqrstuvwxyz"
/-! ### the names of the module -/
structure Bi (mg : Str → Option Value) : Prop where
  isinstance : mg "isinstance" = none
  str : mg "str" = none
  len : mg "len" = none
  all : mg "all" = none
  any : mg "any" = none
  list : mg "list" = none
  tuple : mg "tuple" = none
  enumerate : mg "enumerate" = none
  zip : mg "zip" = none
  range : mg "range" = none
  int : mg "int" = none
  abs : mg "abs" = none
  repr : mg "repr" = none
  sum : mg "sum" = none
  dict : mg "dict" = none
  sorted : mg "sorted" = none
  set : mg "set" = none
  c_MAX_WORD : ∃ t, mg "MAX_WORD" = some (.int 8 t)
  c_MAX_COLUMNS : ∃ t, mg "MAX_COLUMNS" = some (.int 3 t)
  c_MAX_MARKS : ∃ t, mg "MAX_MARKS" = some (.int 3 t)
  c_SMALL : ∃ t, mg "SMALL" = some (.str small t)
/-- a def of the module, to be called -/
structure Dk (K : PySem.W.Frag) (mg : Str → Option Value) (x : Str) (f : Addr) (fd : FuncData) (ps : List Str) : Prop where
  m : mg x = some (.ref f)
  k : PySem.W.keepIn K (.ref f) = true
  b : Binds K fd ps []

/-! ### words -/
def lowC (c : Nat) : Bool := decide (c ∈ small.cps.toList)
/-- a word: one to eight small letters -/
def wordB (s : Str) : Bool := decide (1 ≤ (s.length : Int)) && decide ((s.length : Int) ≤ 8) && s.cps.toList.all lowC
def wordO : Option Str → Bool
  | some s => wordB s
  | none => false
/-- a value that is a text, or none -/
def EntV (K : PySem.W.Frag) (H : Hp) (x : V) : Option Str → Prop
  | some s => x = .str s ∧ s.length ≤ 1000 ∧ PyData.strOk s = true
  | none => ∃ t, TyX K H x t ∧ PySem.W.kitOne K t (.type "str") = some false

def spIsWord (K : PySem.W.Frag) : Sp := fun vs H Q _ => ∃ (x : V) (e : Option Str), vs = [x] ∧ EntV K H x e ∧ ∀ H', Same H H' → Q (.bl (wordO e)) H'

/-! ### rules whose reading names the written part by its own letter -/
def rLenQ (K : PySem.W.Frag) : List V → Hp → VK → Prop := fun xs H Q => ∃ p ys, xs = [.ref p] ∧ (SqL K H p ys ∨ SqT K H p ys) ∧ Q (.int ys.length) H
def rListQ (K : PySem.W.Frag) : List V → Hp → VK → Prop := fun xs H Q => ∃ p ys, xs = [.ref p] ∧ (SqL K H p ys ∨ SqT K H p ys) ∧ ∀ l, H l = none → Q (.ref l) (upd H l (.lst ys))
def rTupleQ (K : PySem.W.Frag) : List V → Hp → VK → Prop := fun xs H Q => ∃ p ys, xs = [.ref p] ∧ ((SqL K H p ys ∧ ∀ l, H l = none → Q (.ref l) (upd H l (.tup ys))) ∨ (SqT K H p ys ∧ Q (.ref p) H))
section
variable {X : Cx}
theorem kLen (K : PySem.W.Frag) (h : X.K = K := by rfl) : CallR X (.builtin "len") (rLenQ K) := by subst h; exact call_len_seq
theorem kList (K : PySem.W.Frag) (h : X.K = K := by rfl) : CallR X (.type "list") (rListQ K) := by subst h; exact call_list_of
theorem kTuple (K : PySem.W.Frag) (h : X.K = K := by rfl) : CallR X (.type "tuple") (rTupleQ K) := by subst h; exact call_tuple_of
theorem kIsi (K : PySem.W.Frag) (h : X.K = K := by rfl) : CallR X (.builtin "isinstance") (rIsi K) := by subst h; exact call_isi
theorem kIsiT (K : PySem.W.Frag) (h : X.K = K := by rfl) : CallR X (.builtin "isinstance") (rIsiT K) := by subst h; exact call_isiT
theorem kAll (K : PySem.W.Frag) (hc : X.calm = true) (h : X.K = K := by rfl) : CallR X (.builtin "all") (rAll K) := by subst h; exact cr_all hc
theorem kAny (K : PySem.W.Frag) (hc : X.calm = true) (h : X.K = K := by rfl) : CallR X (.builtin "any") (rAny K) := by subst h; exact cr_any hc
theorem kIxL (K : PySem.W.Frag) (h : X.K = K := by rfl) : IxR X (rIxL K) := by subst h; exact ix_list
theorem kIxT (K : PySem.W.Frag) (h : X.K = K := by rfl) : IxR X (rIxT K) := by subst h; exact ix_tup
theorem kSlL (K : PySem.W.Frag) (h : X.K = K := by rfl) : SlR X (rSlL K) := by subst h; exact sl_list
theorem kSlT (K : PySem.W.Frag) (h : X.K = K := by rfl) : SlR X (rSlA K) := by subst h; exact sl_tupA
theorem kCatT (K : PySem.W.Frag) (h : X.K = K := by rfl) : OpR X (binaryOp .Add) (rCatA K) := by subst h; exact op_catA
theorem kIn (K : PySem.W.Frag) (h : X.K = K := by rfl) : OpR X (compareOp .In) (rIn K false) := by subst h; exact op_in_seq
theorem kNotIn (K : PySem.W.Frag) (h : X.K = K := by rfl) : OpR X (compareOp .NotIn) (rIn K true) := by subst h; exact op_notIn_seq
theorem kEqD (K : PySem.W.Frag) (hu : X.A.units + 64 < cLine) (h : X.K = K := by rfl) : OpR X (compareOp .Eq) (rEqD K) := by subst h; exact op_eqD hu
theorem kNeD (K : PySem.W.Frag) (hu : X.A.units + 64 < cLine) (h : X.K = K := by rfl) : OpR X (compareOp .NotEq) (rNeD K) := by subst h; exact op_neD hu
theorem kFld (K : PySem.W.Frag) {e : Expr} {f : Str} {ta : TE} {pos : Pos} (he : PE X e ta) (hb : attributeBase e f X.env (eval e X.env) = eval e X.env) (h : X.K = K := by rfl) : PE X (.Attribute e f pos) (tFld K ta f) := by subst h; exact pe_fld he hb
end

/-! ### heaps -/
theorem same_new {H : Hp} {p : Addr} {o : HO} (h : H p = none) : Same H (upd H p o) := fun a u e => by
  rw [upd_ne (ne_of_none e h)]
  exact e
theorem same_mut {H H' : Hp} {p : Addr} {o : HO} (e : Same H H') (h : H p = none) : Same H (upd H' p o) := fun a u ha => by
  rw [upd_ne (ne_of_none ha h)]
  exact e a u ha
theorem same_rd {H H' : Hp} {a : Addr} {u : HO} (e : Same H H') (h : Rd H a u) : Rd H' a u := by
  rcases h with h | ⟨o, h⟩
  · exact Or.inl (e a _ h)
  · exact Or.inr ⟨o, e a _ h⟩
theorem same_l {K : PySem.W.Frag} {H H' : Hp} {a : Addr} {xs : List V} (e : Same H H') (h : SqL K H a xs) : SqL K H' a xs := by
  rcases h with h | h
  · exact Or.inl (same_rd e h)
  · exact Or.inr h
theorem same_t {K : PySem.W.Frag} {H H' : Hp} {a : Addr} {xs : List V} (e : Same H H') (h : SqT K H a xs) : SqT K H' a xs := by
  rcases h with h | h
  · exact Or.inl (same_rd e h)
  · exact Or.inr h

/-! ### a comprehension whose parts change nothing that was there -/
theorem lc_pure {J : It} {n : Nat} {G : Hp → Prop} {Y : Nat → Hp → V → Hp → Prop} (w : Walk J n G Y) {g : TG} {tt : TT} {te : TE} {vs : List Nat} {σ : L2.St} {H1 : Hp} {D : Addr} {Qd : Hp → Prop}
    (hD : H1 D = none) (hn : n < sizeLine) (hG : ∀ H, Same H1 H → G H) (out : Nat → Option V)
    (hs : ∀ i H, i < n → Same H1 H → ∀ x H', Y i H x H' → ∀ (K1 : Hp → Prop) (K2 : V → Hp → Prop), (∀ y H4, Same H H4 → out i = some y → K2 y H4) → (∀ H3, Same H H3 → out i = none → K1 H3) →
      g x (wipe σ vs) H' fun σ2 H2 => wipe σ2 vs = wipe σ vs ∧ tt σ2 H2 fun b H3 => if b = true then te σ2 H3 K2 else K1 H3)
    (hd : ∀ H, Same H1 H → H D = some (.lst ((List.range n).filterMap out)) → Qd H) :
    ∃ W : Nat → Nat → Hp → Prop, (∃ m, W 0 m (upd H1 D (.lst []))) ∧ ∀ i m H, W i m H →
      (J.stop i H ∧ Qd H) ∨ (J.go i H ∧ ∃ Nx : Hp → Prop, (∀ H', Nx H' → ∃ m', m' < m ∧ W (i + 1) m' H') ∧ ∀ x H', J.yld i H x H' → g x (wipe σ vs) H' fun σ2 H2 => wipe σ2 vs = wipe σ vs ∧ tt σ2 H2 fun b H3 =>
        if b = true then te σ2 H3 fun y H4 => ∃ acc, H4 D = some (.lst acc) ∧ acc.length < sizeLine ∧ Nx (upd H4 D (.lst (acc ++ [y]))) else Nx H3) := by
  refine lc_it w (fun i H => Same H1 H ∧ H D = some (.lst ((List.range i).filterMap out))) ⟨same_mut (Same.refl _) hD, upd_same⟩ (fun i H _ h => hG H h.1) ?_ (fun H h => hd H h.1 h.2)
  intro i x H H' hi ⟨hS, hl⟩ hy
  refine hs i H hi hS x H' hy _ _ (fun y H4 z e => ?_) (fun H3 z e => ?_)
  · have hl4 : ((List.range i).filterMap out).length ≤ i := by
      have := List.length_filterMap_le out (List.range i)
      rw [List.length_range] at this
      exact this
    refine ⟨_, z _ _ hl, Nat.lt_of_le_of_lt hl4 (by omega), same_mut (hS.trans z) hD, ?_⟩
    rw [upd_same, List.range_succ, List.filterMap_append]
    simp [e]
  · refine ⟨hS.trans z, ?_⟩
    rw [z _ _ hl, List.range_succ, List.filterMap_append]
    simp [e]
theorem lc_map {J : It} {n : Nat} {G : Hp → Prop} {Y : Nat → Hp → V → Hp → Prop} (w : Walk J n G Y) {g : TG} {te : TE} {vs : List Nat} {σ : L2.St} {H1 : Hp} {D : Addr} {Qd : Hp → Prop}
    (hD : H1 D = none) (hn : n < sizeLine) (hG : ∀ H, Same H1 H → G H) (out : Nat → Option V)
    (hs : ∀ i H, i < n → Same H1 H → ∀ x H', Y i H x H' → ∀ (K2 : V → Hp → Prop), (∀ y H4, Same H H4 → out i = some y → K2 y H4) →
      g x (wipe σ vs) H' fun σ2 H2 => wipe σ2 vs = wipe σ vs ∧ te σ2 H2 K2)
    (mg : ∀ x σ H (A B : L2.St → Hp → Prop), (∀ σ H, A σ H → B σ H) → g x σ H A → g x σ H B)
    (hd : ∀ H, Same H1 H → H D = some (.lst ((List.range n).filterMap out)) → Qd H) :
    ∃ W : Nat → Nat → Hp → Prop, (∃ m, W 0 m (upd H1 D (.lst []))) ∧ ∀ i m H, W i m H →
      (J.stop i H ∧ Qd H) ∨ (J.go i H ∧ ∃ Nx : Hp → Prop, (∀ H', Nx H' → ∃ m', m' < m ∧ W (i + 1) m' H') ∧ ∀ x H', J.yld i H x H' → g x (wipe σ vs) H' fun σ2 H2 => wipe σ2 vs = wipe σ vs ∧ tYes σ2 H2 fun b H3 =>
        if b = true then te σ2 H3 fun y H4 => ∃ acc, H4 D = some (.lst acc) ∧ acc.length < sizeLine ∧ Nx (upd H4 D (.lst (acc ++ [y]))) else Nx H3) :=
  lc_pure w hD hn hG out (fun i H hi hS x H' hy K1 K2 k2 _ => mg _ _ _ _ _ (fun σ2 H2 z => ⟨z.1, iteT (B := K1 H2) z.2⟩) (hs i H hi hS x H' hy K2 k2)) hd
theorem mg_name {i : Nat} : ∀ x σ H (A B : L2.St → Hp → Prop), (∀ σ H, A σ H → B σ H) → gName i x σ H A → gName i x σ H B := fun _ _ _ _ _ h z => h _ _ z
theorem mg_two {K : PySem.W.Frag} {i j : Nat} : ∀ x σ H (A B : L2.St → Hp → Prop), (∀ σ H, A σ H → B σ H) → gTup K 2 (gCons (gName i) (gCons (gName j) gNil)) x σ H A → gTup K 2 (gCons (gName i) (gCons (gName j) gNil)) x σ H B := by
  rintro x σ H A B h ⟨a, xs, rfl, h1, h2, v, r, rfl, v2, r2, rfl, rfl, z⟩
  exact ⟨a, _, rfl, h1, h2, v, _, rfl, v2, _, rfl, rfl, h _ _ z⟩
theorem fm_take {α β : Type} (f : α → β) (l : List α) : ∀ k, (List.range k).filterMap (fun i => (l[i]?).map f) = (l.take k).map f := by
  intro k
  induction k with
  | zero => simp
  | succ k ih =>
    rw [List.range_succ, List.filterMap_append, ih, List.take_succ, List.map_append]
    cases e : l[k]? with
    | none => simp [e]
    | some x => simp [e]
theorem fm_range {α β : Type} (f : α → β) (l : List α) : (List.range l.length).filterMap (fun i => (l[i]?).map f) = l.map f := by
  rw [fm_take, List.take_length]
theorem sizeLine_lt {n : Nat} (h : n ≤ 100000) : n < sizeLine := Nat.lt_of_le_of_lt h (by decide)
theorem sizeLine_le {n : Nat} (h : n ≤ 100000) : n ≤ sizeLine := Nat.le_trans h (by decide)
theorem eqV_str (a b : Str) : eqV (.str a) (.str b) = decide (a = b) := by
  show (a == b) = decide (a = b)
  by_cases h : a = b
  · simp [h]
  · rw [decide_eq_false h]
    exact beq_eq_false_iff_ne.mpr h
theorem inV_str (s : Str) : ∀ xs : List Str, inV (.str s) (xs.map V.str) = decide (s ∈ xs)
  | [] => rfl
  | x :: xs => by
    have ih := inV_str s xs
    unfold inV at ih ⊢
    rw [List.map_cons, List.any_cons, ih, eqV_str]
    by_cases h : x = s
    · subst h
      simp
    · have h' : ¬ s = x := fun e => h e.symm
      simp [h, h']
theorem flat_strs : ∀ xs : List Str, (xs.map V.str).all flatV = true
  | [] => rfl
  | _ :: xs => by
    rw [List.map_cons, List.all_cons, flat_strs xs]
    rfl
theorem cut_take (xs : List V) (k : Nat) : cutV xs none (some (k : Int)) = xs.take k := by
  unfold cutV
  rw [HT.sIx_none, HT.sIx_nat, List.drop_zero, Nat.sub_zero, ← List.take_take, List.take_length]
theorem cut_drop (xs : List V) (k : Nat) : cutV xs (some (k : Int)) none = xs.drop k := by
  unfold cutV
  rw [HT.sIx_none, HT.sIx_nat]
  by_cases h : k ≤ xs.length
  · rw [Nat.min_eq_left h, ← List.length_drop, List.take_length]
  · rw [Nat.min_eq_right (by omega), List.drop_length, List.drop_eq_nil_of_le (by omega), List.take_nil]
/-- a list or a tuple -/
def Sq (K : PySem.W.Frag) (H : Hp) (a : Addr) (xs : List V) : Prop := SqL K H a xs ∨ SqT K H a xs
theorem Sq.same {K : PySem.W.Frag} {H H' : Hp} {a : Addr} {xs : List V} (e : Same H H') (h : Sq K H a xs) : Sq K H' a xs := h.elim (fun z => .inl (same_l e z)) fun z => .inr (same_t e z)
/-- no text twice -/
def dupsB (xs : List Str) : List Bool := (List.range xs.length).filterMap fun i => (xs[i]?).map fun x => decide (x ∈ xs.take i)
def nodupB (xs : List Str) : Bool := !(dupsB xs).any id
theorem nodupB_of {xs : List Str} (h : xs.Nodup) : nodupB xs = true := by
  unfold nodupB
  rw [Bool.not_eq_true', List.any_eq_false]
  intro b hb
  unfold dupsB at hb
  obtain ⟨i, _, e⟩ := List.mem_filterMap.mp hb
  cases q : xs[i]? with
  | none =>
    rw [q] at e
    cases e
  | some x =>
    rw [q] at e
    have e2 : decide (x ∈ xs.take i) = b := Option.some.inj e
    have hx : ¬ x ∈ xs.take i := by
      intro hm
      obtain ⟨j, hj⟩ := List.getElem?_of_mem hm
      have hj2 : j < i := by
        have := (List.getElem?_eq_some_iff.mp hj).1
        rw [List.length_take] at this
        omega
      rw [List.getElem?_take, if_pos hj2] at hj
      have hi := (List.getElem?_eq_some_iff.mp q).1
      have := (List.getElem?_inj (List.getElem?_eq_some_iff.mp hj).1 h).mp (hj.trans q.symm)
      omega
    rw [decide_eq_false hx] at e2
    subst e2
    simp
def spAreDiff (K : PySem.W.Frag) : Sp := fun vs H Q _ => ∃ (a : Addr) (xs : List Str), vs = [.ref a] ∧ Sq K H a (xs.map V.str) ∧ xs.length ≤ 1000 ∧ ∀ H', Same H H' → Q (.bl (nodupB xs)) H'
def spIsList (K : PySem.W.Frag) : Sp := fun vs H Q _ => ∃ (a : Addr) (xs : List V), vs = [.ref a] ∧ Sq K H a xs ∧ ∀ H', Same H H' → Q (.bl true) H'
theorem tyx_l {K : PySem.W.Frag} {H : Hp} {a : Addr} {xs : List V} (h : SqL K H a xs) : TyX K H (.ref a) (.type "list") := by
  rcases h with (h | ⟨o, h⟩) | ⟨o, its, n, h, c, _⟩
  · exact .base (.lst h)
  · exact .base (.frz h)
  · exact .kList h c
theorem tyx_t {K : PySem.W.Frag} {H : Hp} {a : Addr} {xs : List V} (h : SqT K H a xs) : TyX K H (.ref a) (.type "tuple") := by
  rcases h with (h | ⟨o, h⟩) | ⟨o, its, n, h, c, _⟩
  · exact .base (.tup h)
  · exact .fTuple h
  · exact .kTuple h c
theorem tyx_same {K : PySem.W.Frag} {H H' : Hp} {x : V} {t : Value} (e : Same H H') (h : TyX K H x t) : TyX K H' x t := by
  cases h with
  | base b =>
    cases b with
    | non => exact .base .non
    | bl y => exact .base (.bl y)
    | int y => exact .base (.int y)
    | str y => exact .base (.str y)
    | flt y => exact .base (.flt y)
    | lst z => exact .base (.lst (e _ _ z))
    | frz z => exact .base (.frz (e _ _ z))
    | tup z => exact .base (.tup (e _ _ z))
    | dK z => exact .base (.dK (e _ _ z))
    | dT z => exact .base (.dT (e _ _ z))
    | ins z a b c d g => exact .base (.ins (e _ _ z) a b c d g)
  | byt b => exact .byt b
  | set z => exact .set (e _ _ z)
  | kList z c => exact .kList z c
  | kTuple z c => exact .kTuple z c
  | kDict z c => exact .kDict z c
  | fTuple z => exact .fTuple (e _ _ z)
  | fDict z => exact .fDict (e _ _ z)
theorem ent_same {K : PySem.W.Frag} {H H' : Hp} {x : V} {o : Option Str} (e : Same H H') (h : EntV K H x o) : EntV K H' x o := by
  cases o with
  | some s => exact h
  | none =>
    obtain ⟨t, ht, hk⟩ := h
    exact ⟨t, tyx_same e ht, hk⟩
theorem get_map_str {xs : List Str} {i : Nat} {x : V} (h : (xs.map V.str)[i]? = some x) : ∃ s, x = .str s ∧ xs[i]? = some s := by
  rw [List.getElem?_map] at h
  cases e : xs[i]? with
  | none =>
    rw [e] at h
    cases h
  | some s =>
    rw [e] at h
    exact ⟨s, (Option.some.inj h).symm, rfl⟩
theorem fm_bind {α β : Type} (f : α → Option β) (l : List α) : (List.range l.length).filterMap (fun i => (l[i]?).bind f) = l.filterMap f := by
  have : ∀ k, (List.range k).filterMap (fun i => (l[i]?).bind f) = (l.take k).filterMap f := by
    intro k
    induction k with
    | zero => simp
    | succ k ih =>
      rw [List.range_succ, List.filterMap_append, ih, List.take_succ, List.filterMap_append]
      cases e : l[k]? with
      | none => simp [e]
      | some x => simp [e, List.filterMap_cons]
  rw [this, List.take_length]
theorem dpAll_strs {K : PySem.W.Frag} {H : Hp} : ∀ xs : List Str, DpAll K H (xs.map V.str) (xs.map PyData.str)
  | [] => .nil
  | x :: xs => .cons (.str x) (dpAll_strs xs)
theorem canLay_strs : ∀ {xs : List Str}, (∀ x ∈ xs, PyData.strOk x = true) → PyData.canLayAll0 (xs.map PyData.str) = true
  | [], _ => rfl
  | x :: xs, h => by
    rw [List.map_cons]
    unfold PyData.canLayAll0
    rw [canLay_strs (fun y hy => h y (List.mem_cons_of_mem _ hy)), Bool.and_true]
    exact h x List.mem_cons_self
theorem depth_strs : ∀ (xs : List Str), PyData.depthAll (xs.map PyData.str) = 0
  | [] => rfl
  | x :: xs => by
    rw [List.map_cons]
    unfold PyData.depthAll
    rw [depth_strs xs]
    rfl
theorem shaped_strs {xs : List Str} (h : ∀ x ∈ xs, PyData.strOk x = true) : SeqAt.shaped (.list (xs.map PyData.str)) = true := by
  unfold SeqAt.shaped PyData.canLay0 PyData.depth
  rw [canLay_strs h, depth_strs]
  rfl
theorem eqv_nil (ds : List PyData) : PyData.eqv (.list ds) (.list []) = ds.isEmpty := by
  cases ds <;> rfl
end Q
namespace Q
open PySem L2

/-! ### plain data -/
inductive D where
  | non | bl (b : Bool) | int (i : Int) | str (s : Str) | byt (b : Array UInt8) | ty (n : String)
  | lst (xs : List D) | tup (xs : List D) | dK (kvs : List (Key × D)) | dT (kvs : List (List Key × D))
  | ins (C : Addr) (fs : List (Str × D)) | cell (n : Nat) | cls (a : Addr) | scr (ns : List Int) | rows (n : Nat)

/-- which addresses bear what changes, and what is plain for ever -/
structure Wd where
  /-- the address of each thing; of a database also that of its dict of rows -/
  φ : List (Addr × Addr)
  owns : List (List Addr)
  F : Addr → Prop
  /-- dicts that are locked -/
  L : List (Addr × Obj)
def Wd.own (W : Wd) (a : Addr) : Prop := ∃ w ∈ W.owns, a ∈ w

mutual
inductive Rep (φ : List (Addr × Addr)) (F : Addr → Prop) (H : Hp) : V → D → Prop
  | non : Rep φ F H .non .non
  | bl (b : Bool) : Rep φ F H (.bl b) (.bl b)
  | int (i : Int) : Rep φ F H (.int i) (.int i)
  | str (x : Str) : Rep φ F H (.str x) (.str x)
  | byt (x : Array UInt8) : Rep φ F H (.byt x) (.byt x)
  | ty (n : String) : Rep φ F H (.ty n) (.ty n)
  | cls (a : Addr) : Rep φ F H (.ref a) (.cls a)
  | cell {n : Nat} {a r : Addr} : φ[n]? = some (a, r) → Rep φ F H (.ref a) (.cell n)
  | rows {n : Nat} {a r : Addr} : φ[n]? = some (a, r) → Rep φ F H (.ref r) (.rows n)
  | lst {a : Addr} {xs : List V} {ds : List D} : F a → H a = some (.lst xs) → RepL φ F H xs ds → Rep φ F H (.ref a) (.lst ds)
  | scr {a : Addr} {ns : List Int} : F a → Rd H a (.lst (ns.map V.int)) → Rep φ F H (.ref a) (.scr ns)
  | tup {a : Addr} {xs : List V} {ds : List D} : H a = some (.tup xs) → RepL φ F H xs ds → Rep φ F H (.ref a) (.tup ds)
  | dK {a : Addr} {xs : List (Key × V)} {ds : List (Key × D)} : F a → H a = some (.dK xs) → RepK φ F H xs ds → Rep φ F H (.ref a) (.dK ds)
  | dT {a : Addr} {xs : List (List Key × V)} {ds : List (List Key × D)} : F a → H a = some (.dT xs) → RepT φ F H xs ds → Rep φ F H (.ref a) (.dT ds)
  | ins {a C dx : Addr} {xs : List (Str × V)} {ds : List (Str × D)} : F a → H a = some (.ins C dx xs) → RepF φ F H xs ds → Rep φ F H (.ref a) (.ins C ds)
inductive RepL (φ : List (Addr × Addr)) (F : Addr → Prop) (H : Hp) : List V → List D → Prop
  | nil : RepL φ F H [] []
  | cons {v : V} {d : D} {vs : List V} {ds : List D} : Rep φ F H v d → RepL φ F H vs ds → RepL φ F H (v :: vs) (d :: ds)
inductive RepK (φ : List (Addr × Addr)) (F : Addr → Prop) (H : Hp) : List (Key × V) → List (Key × D) → Prop
  | nil : RepK φ F H [] []
  | cons {k : Key} {v : V} {d : D} {vs : List (Key × V)} {ds : List (Key × D)} : Rep φ F H v d → RepK φ F H vs ds → RepK φ F H ((k, v) :: vs) ((k, d) :: ds)
inductive RepT (φ : List (Addr × Addr)) (F : Addr → Prop) (H : Hp) : List (List Key × V) → List (List Key × D) → Prop
  | nil : RepT φ F H [] []
  | cons {k : List Key} {v : V} {d : D} {vs : List (List Key × V)} {ds : List (List Key × D)} : Rep φ F H v d → RepT φ F H vs ds → RepT φ F H ((k, v) :: vs) ((k, d) :: ds)
inductive RepF (φ : List (Addr × Addr)) (F : Addr → Prop) (H : Hp) : List (Str × V) → List (Str × D) → Prop
  | nil : RepF φ F H [] []
  | cons {k : Str} {v : V} {d : D} {vs : List (Str × V)} {ds : List (Str × D)} : Rep φ F H v d → RepF φ F H vs ds → RepF φ F H ((k, v) :: vs) ((k, d) :: ds)
end

/-- later: what was plain stays plain -/
structure Fut (φ : List (Addr × Addr)) (F : Addr → Prop) (H : Hp) (φ' : List (Addr × Addr)) (F' : Addr → Prop) (H' : Hp) : Prop where
  cells : ∀ (n : Nat) (a : Addr × Addr), φ[n]? = some a → φ'[n]? = some a
  sub : ∀ a, F a → F' a
  keep : ∀ a o, F a → H a = some o → H' a = some o
  tups : ∀ a xs, H a = some (.tup xs) → H' a = some (.tup xs)
theorem Fut.rd {φ F H φ' F' H'} (f : Fut φ F H φ' F' H') {a : Addr} {u : HO} (hF : F a) (h : Rd H a u) : Rd H' a u := by
  rcases h with h | ⟨o, h⟩
  · exact .inl (f.keep a _ hF h)
  · exact .inr ⟨o, f.keep a _ hF h⟩
mutual
theorem Rep.fut {φ F H φ' F' H'} (f : Fut φ F H φ' F' H') : ∀ {d : D} {v : V}, Rep φ F H v d → Rep φ' F' H' v d
  | .non, _, h => by cases h; exact .non
  | .bl b, _, h => by cases h; exact .bl b
  | .int b, _, h => by cases h; exact .int b
  | .str b, _, h => by cases h; exact .str b
  | .byt b, _, h => by cases h; exact .byt b
  | .ty b, _, h => by cases h; exact .ty b
  | .cls b, _, h => by cases h; exact .cls b
  | .cell n, _, h => by
    cases h with
    | cell e => exact .cell (f.cells _ _ e)
  | .rows n, _, h => by
    cases h with
    | rows e => exact .rows (f.cells _ _ e)
  | .lst ds, _, h => by
    cases h with
    | lst h1 h2 h3 => exact .lst (f.sub _ h1) (f.keep _ _ h1 h2) (RepL.fut f h3)
  | .scr ns, _, h => by
    cases h with
    | scr h1 h2 => exact .scr (f.sub _ h1) (f.rd h1 h2)
  | .tup ds, _, h => by
    cases h with
    | tup h2 h3 => exact .tup (f.tups _ _ h2) (RepL.fut f h3)
  | .dK ds, _, h => by
    cases h with
    | dK h1 h2 h3 => exact .dK (f.sub _ h1) (f.keep _ _ h1 h2) (RepK.fut f h3)
  | .dT ds, _, h => by
    cases h with
    | dT h1 h2 h3 => exact .dT (f.sub _ h1) (f.keep _ _ h1 h2) (RepT.fut f h3)
  | .ins C ds, _, h => by
    cases h with
    | ins h1 h2 h3 => exact .ins (f.sub _ h1) (f.keep _ _ h1 h2) (RepF.fut f h3)
theorem RepL.fut {φ F H φ' F' H'} (f : Fut φ F H φ' F' H') : ∀ {ds : List D} {vs : List V}, RepL φ F H vs ds → RepL φ' F' H' vs ds
  | [], _, h => by cases h; exact .nil
  | d :: ds, _, h => by
    cases h with
    | cons h1 h2 => exact .cons (Rep.fut f h1) (RepL.fut f h2)
theorem RepK.fut {φ F H φ' F' H'} (f : Fut φ F H φ' F' H') : ∀ {ds : List (Key × D)} {vs : List (Key × V)}, RepK φ F H vs ds → RepK φ' F' H' vs ds
  | [], _, h => by cases h; exact .nil
  | (k, d) :: ds, _, h => by
    cases h with
    | cons h1 h2 => exact .cons (Rep.fut f h1) (RepK.fut f h2)
theorem RepT.fut {φ F H φ' F' H'} (f : Fut φ F H φ' F' H') : ∀ {ds : List (List Key × D)} {vs : List (List Key × V)}, RepT φ F H vs ds → RepT φ' F' H' vs ds
  | [], _, h => by cases h; exact .nil
  | (k, d) :: ds, _, h => by
    cases h with
    | cons h1 h2 => exact .cons (Rep.fut f h1) (RepT.fut f h2)
theorem RepF.fut {φ F H φ' F' H'} (f : Fut φ F H φ' F' H') : ∀ {ds : List (Str × D)} {vs : List (Str × V)}, RepF φ F H vs ds → RepF φ' F' H' vs ds
  | [], _, h => by cases h; exact .nil
  | (k, d) :: ds, _, h => by
    cases h with
    | cons h1 h2 => exact .cons (Rep.fut f h1) (RepF.fut f h2)
end
end Q
namespace Q
open PySem L2

/-! ### things that change, kept in a store -/
abbrev penK (c : Addr) (t l : Int) : List (Key × V) := [(Sum.inr "cells", .ref c), (Sum.inr "turn", .int t), (Sum.inr "left", .int l)]
inductive Cell where
  /-- the source of draws: at most n of them were made -/
  | pen (n : Nat)
  /-- a database: where it lies, its class, its schema, the rows of its tables -/
  | db (x C : Addr) (sch : D) (rows : List (Str × List (List Key)))
/-- the tables of a database: names, keys, their dicts -/
inductive TabsAt (H : Hp) : List (Key × V) → List (Str × List (List Key)) → List Addr → Prop
  | nil : TabsAt H [] [] []
  | cons {t : Addr} {n : Str} {ks : List (List Key)} {kvs : List (Key × V)} {rows : List (Str × List (List Key))} {ts : List Addr} : H t = some (.dT (ks.map fun k => (k, .bl true))) → TabsAt H kvs rows ts → TabsAt H ((Sum.inr n, .ref t) :: kvs) ((n, ks) :: rows) (t :: ts)
def CellRep (φ : List (Addr × Addr)) (F : Addr → Prop) (H : Hp) (a : Addr × Addr) (w : List Addr) : Cell → Prop
  | .pen n => w = [a.1] ∧ ∃ (c : Addr) (cells : List Int) (t l : Int), F c ∧ H a.1 = some (.dK (penK c t l)) ∧ H c = some (.lst (cells.map V.int)) ∧ cells.length ≤ 63 ∧ 0 ≤ t ∧ t ≤ (n : Int) ∧ 0 ≤ l
  | .db x C sch rows => ∃ (dx : Addr) (vs : V) (kvs : List (Key × V)) (ts : List Addr), w = a.1 :: a.2 :: ts ∧ w.Nodup ∧ H a.1 = some (.ins C dx [("own_schema", vs), ("own_rows", .ref a.2)]) ∧ Rep φ F H vs sch ∧ H a.2 = some (.dK kvs) ∧ TabsAt H kvs rows ts ∧ (rows.map (·.1)).Nodup ∧ x = a.1
theorem TabsAt.fut {H H' : Hp} : ∀ {kvs : List (Key × V)} {rows : List (Str × List (List Key))} {ts : List Addr}, (∀ a ∈ ts, H' a = H a) → TabsAt H kvs rows ts → TabsAt H' kvs rows ts
  | _, _, _, _, .nil => .nil
  | _, _, _, e, .cons h t => .cons ((e _ List.mem_cons_self).trans h) (t.fut fun a ha => e a (List.mem_cons_of_mem _ ha))
theorem CellRep.fut {φ F H φ' F' H'} (f : Fut φ F H φ' F' H') {a : Addr × Addr} {w : List Addr} {c : Cell} (e : ∀ x ∈ w, H' x = H x) (h : CellRep φ F H a w c) : CellRep φ' F' H' a w c := by
  cases c with
  | pen n =>
    obtain ⟨rfl, c, cells, t, l, h1, h2, h3, h4⟩ := h
    exact ⟨rfl, c, cells, t, l, f.sub _ h1, (e _ List.mem_cons_self).trans h2, f.keep _ _ h1 h3, h4⟩
  | db x C sch rows =>
    obtain ⟨dx, vs, kvs, ts, rfl, h1, h2, h3, h4, h5, h6⟩ := h
    exact ⟨dx, vs, kvs, ts, rfl, h1, (e _ List.mem_cons_self).trans h2, h3.fut f, (e _ (List.mem_cons_of_mem _ List.mem_cons_self)).trans h4, h5.fut fun a ha => e _ (List.mem_cons_of_mem _ (List.mem_cons_of_mem _ ha)), h6⟩
/-- the kinds of things that may be changed -/
def mutO : HO → Bool
  | .lst _ => true
  | .dK _ => true
  | .dT _ => true
  | .ins _ _ _ => true
  | _ => false
theorem TabsAt.mem {H : Hp} : ∀ {kvs : List (Key × V)} {rows : List (Str × List (List Key))} {ts : List Addr}, TabsAt H kvs rows ts → ∀ t ∈ ts, ∃ o, H t = some o ∧ mutO o = true
  | _, _, _, .nil, t, h => absurd h List.not_mem_nil
  | _, _, _, .cons h r, t, ht => (List.mem_cons.mp ht).elim (fun e => by subst e; exact ⟨_, h, rfl⟩) fun z => r.mem t z
theorem CellRep.there {φ F H} {a : Addr × Addr} {w : List Addr} {c : Cell} (h : CellRep φ F H a w c) : ∀ x ∈ w, ∃ o, H x = some o ∧ mutO o = true := by
  cases c with
  | pen n =>
    obtain ⟨rfl, c, cells, t, l, h1, h2, h3, h4⟩ := h
    intro x hx
    rw [List.mem_singleton.mp hx]
    exact ⟨_, h2, rfl⟩
  | db x C sch rows =>
    obtain ⟨dx, vs, kvs, ts, rfl, h1, h2, h3, h4, h5, h6⟩ := h
    intro y hx
    rcases List.mem_cons.mp hx with e | hx
    · rw [e]; exact ⟨_, h2, rfl⟩
    · rcases List.mem_cons.mp hx with e | hx
      · rw [e]; exact ⟨_, h4, rfl⟩
      · exact h5.mem y hx

/-! ### states -/
/-- a slot: not yet told, plain data, or a thing that the slot alone bears -/
inductive O where
  | un | d (x : D) | lst (xs : List D) | dK (kvs : List (Key × D)) | dT (kvs : List (List Key × D)) | ins (x : Addr) (C : Addr) (fs : List (Str × D))
def O.owned : O → Bool
  | .un => false
  | .d _ => false
  | _ => true
def O.toD : O → D
  | .un => .non
  | .d x => x
  | .lst xs => .lst xs
  | .dK kvs => .dK kvs
  | .dT kvs => .dT kvs
  | .ins _ C fs => .ins C fs
structure Ps where
  ρ : List O
  S : List Cell
  rw : Bool
  /-- the cells' tables are read as plain data -/
  vw : Bool
abbrev Rp (W : Wd) (H : Hp) (v : V) (d : D) : Prop := Rep W.φ W.F H v d
/-- what a slot's own thing is -/
def OwnAt (W : Wd) (H : Hp) (a : Addr) : O → Prop
  | .lst ds => ∃ xs, H a = some (.lst xs) ∧ RepL W.φ W.F H xs ds
  | .dK ds => ∃ xs, H a = some (.dK xs) ∧ RepK W.φ W.F H xs ds
  | .dT ds => ∃ xs, H a = some (.dT xs) ∧ RepT W.φ W.F H xs ds
  | .ins x C ds => x = a ∧ ∃ dx xs, H a = some (.ins C dx xs) ∧ RepF W.φ W.F H xs ds
  | _ => False
def SlotOk (W : Wd) (H : Hp) (o : O) (x : Option V) : Prop :=
  match o with
  | .un => True
  | .d y => ∃ v, x = some v ∧ Rp W H v y
  | o => ∃ a, x = some (.ref a) ∧ OwnAt W H a o
def slotOwns (ρ : List O) (σ : L2.St) (i : Nat) (a : Addr) : Prop := ∃ o, ρ[i]? = some o ∧ o.owned = true ∧ σ[i]? = some (some (.ref a))
theorem OwnAt.there {W : Wd} {H : Hp} {a : Addr} {o : O} (h : OwnAt W H a o) : ∃ u, H a = some u ∧ mutO u = true := by
  cases o with
  | un => exact h.elim
  | d x => exact h.elim
  | lst _ => obtain ⟨_, h, _⟩ := h; exact ⟨_, h, rfl⟩
  | dK _ => obtain ⟨_, h, _⟩ := h; exact ⟨_, h, rfl⟩
  | dT _ => obtain ⟨_, h, _⟩ := h; exact ⟨_, h, rfl⟩
  | ins _ _ _ => obtain ⟨_, _, _, h, _⟩ := h; exact ⟨_, h, rfl⟩
theorem OwnAt.fut {W W' : Wd} {H H' : Hp} (f : Fut W.φ W.F H W'.φ W'.F H') {a : Addr} {o : O} (e : H' a = H a) (h : OwnAt W H a o) : OwnAt W' H' a o := by
  cases o with
  | un => exact h
  | d x => exact h
  | lst _ => obtain ⟨_, h, g⟩ := h; exact ⟨_, e.trans h, g.fut f⟩
  | dK _ => obtain ⟨_, h, g⟩ := h; exact ⟨_, e.trans h, g.fut f⟩
  | dT _ => obtain ⟨_, h, g⟩ := h; exact ⟨_, e.trans h, g.fut f⟩
  | ins _ _ _ => obtain ⟨z, _, _, h, g⟩ := h; exact ⟨z, _, _, e.trans h, g.fut f⟩
theorem SlotOk.of_own {W : Wd} {H : Hp} {a : Addr} {o : O} (ho : o.owned = true) (h : OwnAt W H a o) : SlotOk W H o (some (.ref a)) := by
  cases o with
  | un => cases ho
  | d x => cases ho
  | lst _ => exact ⟨a, rfl, h⟩
  | dK _ => exact ⟨a, rfl, h⟩
  | dT _ => exact ⟨a, rfl, h⟩
  | ins _ _ _ => exact ⟨a, rfl, h⟩
theorem SlotOk.own {W : Wd} {H : Hp} {o : O} {x : Option V} (ho : o.owned = true) (h : SlotOk W H o x) : ∃ a, x = some (.ref a) ∧ OwnAt W H a o := by
  cases o with
  | un => cases ho
  | d x => cases ho
  | lst _ => exact h
  | dK _ => exact h
  | dT _ => exact h
  | ins _ _ _ => exact h

/-- from one state to a later one, while the slots' own things stay as they are; rw: the cells may change -/
structure Step (rw : Bool) (W : Wd) (H : Hp) (W' : Wd) (H' : Hp) : Prop where
  cells : ∀ (n : Nat) (a : Addr × Addr), W.φ[n]? = some a → W'.φ[n]? = some a
  sub : ∀ a, W.F a → W'.F a
  keep : ∀ a o, H a = some o → (rw = true → ¬ W.own a) → H' a = some o
  tups : ∀ a xs, H a = some (.tup xs) → H' a = some (.tup xs)
  dom : ∀ a, H a ≠ none → H' a ≠ none
  ownNew : ∀ a, W'.own a → W.own a ∨ (rw = true ∧ H a = none)
  locks : ∃ more, W'.L = more ++ W.L
  ownOld : ∀ a, W.own a → W'.own a ∨ rw = true
theorem Step.refl (rw : Bool) (W : Wd) (H : Hp) : Step rw W H W H := ⟨fun _ _ e => e, fun _ h => h, fun _ _ e _ => e, fun _ _ e => e, fun _ h => h, fun _ h => .inl h, ⟨[], rfl⟩, fun _ h => .inl h⟩
theorem Step.trans {rw : Bool} {W W1 W2 : Wd} {H H1 H2 : Hp} (a : Step rw W H W1 H1) (b : Step rw W1 H1 W2 H2) : Step rw W H W2 H2 where
  cells := fun n x e => b.cells n x (a.cells n x e)
  sub := fun x h => b.sub x (a.sub x h)
  keep := fun x o e n => b.keep x o (a.keep x o e n) fun hr ho => (a.ownNew x ho).elim (n hr) fun z => by rw [e] at z; cases z.2
  tups := fun x xs e => b.tups x xs (a.tups x xs e)
  dom := fun x h => b.dom x (a.dom x h)
  ownNew := fun x h => (b.ownNew x h).elim (a.ownNew x) fun z => .inr ⟨z.1, Classical.byContradiction fun y => a.dom x y z.2⟩
  locks := by
    obtain ⟨m1, e1⟩ := a.locks
    obtain ⟨m2, e2⟩ := b.locks
    exact ⟨m2 ++ m1, by rw [e2, e1, List.append_assoc]⟩
  ownOld := fun x h => (a.ownOld x h).elim (b.ownOld x) .inr
/-- where a body starts: the world, the heap; whether the cells may change; what is wanted of an error -/
structure C0 where
  W0 : Wd
  H0 : Hp
  rw : Bool
  E : Addr → List (Str × D) → Ps → Prop
  /-- new things that nobody bears yet -/
  R : Addr → Prop
def lockH (L : List (Addr × Obj)) (H : Hp) : Hp := fun a => match L.lookup a with
  | some o => (H a).map (HO.frz o)
  | none => H a
def dictO : HO → Bool
  | .dK _ => true
  | .dT _ => true
  | _ => false
/-- the store lies in the heap -/
structure Base (rw : Bool) (W : Wd) (S : List Cell) (H : Hp) : Prop where
  fdom : ∀ a, W.F a → ∃ o, H a = some o
  len : W.φ.length = S.length ∧ W.owns.length = S.length
  cell : ∀ (n : Nat) (a : Addr × Addr) (x : Cell) (w : List Addr), W.φ[n]? = some a → S[n]? = some x → W.owns[n]? = some w → CellRep W.φ W.F H a w x
  apart : ∀ (m n : Nat) (w w' : List Addr) (x : Addr), W.owns[m]? = some w → W.owns[n]? = some w' → x ∈ w → x ∈ w' → m = n
  ownF : rw = true → ∀ a, W.own a → ¬ W.F a
  lN : (W.L.map (·.1)).Nodup
  lF : ∀ a o, W.L.lookup a = some o → (W.F a ∨ rw = false ∧ W.own a) ∧ ∃ u, H a = some u ∧ dictO u = true
structure Pre (c : C0) (W : Wd) (st : Ps) (σ : L2.St) (H : Hp) : Prop where
  hrw : st.rw = c.rw
  step : Step c.rw c.W0 c.H0 W H
  new : ∀ a, W.F a → c.W0.F a ∨ c.H0 a = none
  base : Base c.rw W st.S H
  slen : st.ρ.length = σ.length
  slot : ∀ (i : Nat) (o : O), st.ρ[i]? = some o → SlotOk W H o (σ[i]?.join)
  sown : ∀ i a, slotOwns st.ρ σ i a → ¬ W.F a ∧ ¬ W.own a ∧ c.H0 a = none
  sapart : ∀ i j a, slotOwns st.ρ σ i a → slotOwns st.ρ σ j a → i = j
  rsv : ∀ a, c.R a → ¬ W.F a ∧ ¬ W.own a ∧ (∃ o, H a = some o) ∧ ∀ i, ¬ slotOwns st.ρ σ i a
  hvw : st.vw = true → c.rw = false ∧ ∀ a, W.own a → W.F a
  own0 : ∀ a, c.W0.own a → ∃ o, c.H0 a = some o ∧ mutO o = true

/-! ### locks -/
section
variable {L : List (Addr × Obj)} {H : Hp} {a p : Addr} {o u : HO}
theorem lock_rd (h : H a = some u) : Rd (lockH L H) a u := by
  cases e : L.lookup a with
  | none => exact .inl (by simp only [lockH, e]; exact h)
  | some x => exact .inr ⟨x, by simp only [lockH, e, h]; rfl⟩
theorem lock_none (h : lockH L H p = none) : H p = none := by
  unfold lockH at h
  cases e : L.lookup p with
  | none => rw [e] at h; exact h
  | some x =>
    rw [e] at h
    cases q : H p with
    | none => rfl
    | some y => rw [q] at h; cases h
theorem lock_at (h : L.lookup a = none) : lockH L H a = H a := by
  unfold lockH
  rw [h]
theorem lock_upd (h : L.lookup p = none) : upd (lockH L H) p o = lockH L (upd H p o) := by
  funext b
  unfold upd lockH
  by_cases e : b = p
  · subst e
    simp only [h]
  · simp only [if_neg e]
end
theorem Pre.lnone {c : C0} {W : Wd} {st : Ps} {σ : L2.St} {H : Hp} (P : Pre c W st σ H) {p : Addr} (h : H p = none) : W.L.lookup p = none := by
  cases e : W.L.lookup p with
  | none => rfl
  | some o =>
    obtain ⟨_, x, q, _⟩ := P.base.lF p o e
    rw [h] at q
    cases q
theorem Pre.lown {c : C0} {W : Wd} {st : Ps} {σ : L2.St} {H : Hp} (P : Pre c W st σ H) {p : Addr} (h : ¬ W.F p) (h2 : ¬ W.own p) : W.L.lookup p = none := by
  cases e : W.L.lookup p with
  | none => rfl
  | some o => exact ((P.base.lF p o e).1.elim h fun z => h2 z.2).elim
theorem Step.fut {rw : Bool} {W W' : Wd} {H H' : Hp} (s : Step rw W H W' H') (hF : rw = true → ∀ a, W.own a → ¬ W.F a) : Fut W.φ W.F H W'.φ W'.F H' :=
  ⟨s.cells, s.sub, fun a o hf e => s.keep a o e fun hr ho => hF hr a ho hf, s.tups⟩

/-! ### results of expressions -/
/-- plain data, or the thing that a slot bears -/
inductive R where
  | v (d : D) | ref (i : Nat)
def look (st : Ps) : R → Option D
  | .v d => some d
  | .ref i => match st.ρ[i]? with
    | some .un => none
    | some o => some o.toD
    | none => none
def RV (W : Wd) (σ : L2.St) (H : Hp) (v : V) : R → Prop
  | .v d => Rp W H v d
  | .ref i => σ[i]? = some (some v)
abbrev EK := Addr → List (Str × D) → Ps → Prop
abbrev Ex := EK → Ps → (R → Ps → Prop) → Prop
/-- the reading of an expression over plain states -/
def tX (c : C0) (f : Ex) : TE := fun σ H Q => ∃ W st H1 Q0, H = lockH W.L H1 ∧ Pre c W st σ H1 ∧ f c.E st Q0 ∧
  ∀ r st' v W' H2, Q0 r st' → Step c.rw W H1 W' H2 → Pre c W' st' σ H2 → RV W' σ H2 v r → Q v (lockH W'.L H2)
end Q
namespace Q
open PySem L2

/-! ### what is read: the top may be a slot's own thing -/
inductive Top (φ : List (Addr × Addr)) (F : Addr → Prop) (H : Hp) : V → D → Prop
  | non : Top φ F H .non .non
  | bl (b : Bool) : Top φ F H (.bl b) (.bl b)
  | int (i : Int) : Top φ F H (.int i) (.int i)
  | str (x : Str) : Top φ F H (.str x) (.str x)
  | byt (x : Array UInt8) : Top φ F H (.byt x) (.byt x)
  | ty (n : String) : Top φ F H (.ty n) (.ty n)
  | cls (a : Addr) : Top φ F H (.ref a) (.cls a)
  | cell {n : Nat} {a r : Addr} : φ[n]? = some (a, r) → Top φ F H (.ref a) (.cell n)
  | rows {n : Nat} {a r : Addr} : φ[n]? = some (a, r) → Top φ F H (.ref r) (.rows n)
  | lst {a : Addr} {xs : List V} {ds : List D} : H a = some (.lst xs) → RepL φ F H xs ds → Top φ F H (.ref a) (.lst ds)
  | scr {a : Addr} {ns : List Int} : Rd H a (.lst (ns.map V.int)) → Top φ F H (.ref a) (.scr ns)
  | tup {a : Addr} {xs : List V} {ds : List D} : H a = some (.tup xs) → RepL φ F H xs ds → Top φ F H (.ref a) (.tup ds)
  | dK {a : Addr} {xs : List (Key × V)} {ds : List (Key × D)} : H a = some (.dK xs) → RepK φ F H xs ds → Top φ F H (.ref a) (.dK ds)
  | dT {a : Addr} {xs : List (List Key × V)} {ds : List (List Key × D)} : H a = some (.dT xs) → RepT φ F H xs ds → Top φ F H (.ref a) (.dT ds)
  | ins {a C dx : Addr} {xs : List (Str × V)} {ds : List (Str × D)} : H a = some (.ins C dx xs) → RepF φ F H xs ds → Top φ F H (.ref a) (.ins C ds)
theorem Rep.top {φ F H v d} (h : Rep φ F H v d) : Top φ F H v d := by
  cases h with
  | non => exact .non
  | bl b => exact .bl b
  | int b => exact .int b
  | str b => exact .str b
  | byt b => exact .byt b
  | ty b => exact .ty b
  | cls b => exact .cls b
  | cell e => exact .cell e
  | rows e => exact .rows e
  | lst h1 h2 h3 => exact .lst h2 h3
  | scr h1 h2 => exact .scr h2
  | tup h2 h3 => exact .tup h2 h3
  | dK h1 h2 h3 => exact .dK h2 h3
  | dT h1 h2 h3 => exact .dT h2 h3
  | ins h1 h2 h3 => exact .ins h2 h3
theorem OwnAt.top {W : Wd} {H : Hp} {a : Addr} {o : O} (h : OwnAt W H a o) : Top W.φ W.F H (.ref a) o.toD := by
  cases o with
  | un => exact h.elim
  | d x => exact h.elim
  | lst _ => obtain ⟨_, h, g⟩ := h; exact .lst h g
  | dK _ => obtain ⟨_, h, g⟩ := h; exact .dK h g
  | dT _ => obtain ⟨_, h, g⟩ := h; exact .dT h g
  | ins _ _ _ => obtain ⟨_, _, _, h, g⟩ := h; exact .ins h g
theorem OwnAt.rep {W : Wd} {H : Hp} {a : Addr} {o : O} (hF : W.F a) (h : OwnAt W H a o) : Rp W H (.ref a) o.toD := by
  cases o with
  | un => exact h.elim
  | d x => exact h.elim
  | lst _ => obtain ⟨_, h, g⟩ := h; exact .lst hF h g
  | dK _ => obtain ⟨_, h, g⟩ := h; exact .dK hF h g
  | dT _ => obtain ⟨_, h, g⟩ := h; exact .dT hF h g
  | ins _ _ _ => obtain ⟨_, _, _, h, g⟩ := h; exact .ins hF h g
section
variable {c : C0} {W W' : Wd} {st st' : Ps} {σ : L2.St} {H H' : Hp}
theorem Pre.top (P : Pre c W st σ H) {v : V} {r : R} {d : D} (h : RV W σ H v r) (e : look st r = some d) : Top W.φ W.F H v d := by
  cases r with
  | v x =>
    cases e
    exact Rep.top h
  | ref i =>
    have h' : σ[i]? = some (some v) := h
    unfold look at e
    dsimp only at e
    cases q : st.ρ[i]? with
    | none => rw [q] at e; cases e
    | some o =>
      rw [q] at e
      have so := P.slot i o q
      rw [h'] at so
      cases o with
      | un => cases e
      | d x =>
        cases e
        obtain ⟨v', e1, e2⟩ := so
        cases e1
        exact Rep.top e2
      | lst _ => cases e; obtain ⟨a, e1, e2⟩ := so; cases e1; exact e2.top
      | dK _ => cases e; obtain ⟨a, e1, e2⟩ := so; cases e1; exact e2.top
      | dT _ => cases e; obtain ⟨a, e1, e2⟩ := so; cases e1; exact e2.top
      | ins _ _ _ => cases e; obtain ⟨a, e1, e2⟩ := so; cases e1; exact e2.top
theorem Pre.fut (P : Pre c W st σ H) (s : Step c.rw W H W' H') : Fut W.φ W.F H W'.φ W'.F H' := s.fut P.base.ownF
theorem RV.step (P : Pre c W st σ H) (s : Step c.rw W H W' H') {v : V} {r : R} (h : RV W σ H v r) : RV W' σ H' v r := by
  cases r with
  | v d => exact Rep.fut (P.fut s) h
  | ref i => exact h

/-! ### a new thing -/
def Wd.add (W : Wd) (p : Addr) : Wd := { W with F := fun a => W.F a ∨ a = p }
theorem own_add {p a : Addr} : (W.add p).own a ↔ W.own a := Iff.rfl
theorem upd_some {H : Hp} {p a : Addr} {o u : HO} (hp : H p = none) (h : H a = some u) : upd H p o a = some u := by
  rw [upd_ne (ne_of_none h hp)]
  exact h
theorem upd_dom {H : Hp} {p a : Addr} {o : HO} (h : H a ≠ none) : upd H p o a ≠ none := by
  unfold upd
  split
  · intro z; cases z
  · exact h
theorem step_new (rw : Bool) (W : Wd) {H : Hp} {p : Addr} {o : HO} (hp : H p = none) : Step rw W H W (upd H p o) :=
  ⟨fun _ _ e => e, fun _ h => h, fun _ _ e _ => upd_some hp e, fun _ _ e => upd_some hp e, fun _ h => upd_dom h, fun _ h => .inl h, ⟨[], rfl⟩, fun _ h => .inl h⟩
theorem step_add (rw : Bool) (W : Wd) (H : Hp) (p : Addr) : Step rw W H (W.add p) H :=
  ⟨fun _ _ e => e, fun _ h => .inl h, fun _ _ e _ => e, fun _ _ e => e, fun _ h => h, fun _ h => .inl h, ⟨[], rfl⟩, fun _ h => .inl h⟩
theorem Base.own_there {rw : Bool} {S : List Cell} (B : Base rw W S H) {a : Addr} (h : W.own a) : ∃ o, H a = some o ∧ mutO o = true := by
  obtain ⟨w, hw, ha⟩ := h
  obtain ⟨n, hn⟩ := List.getElem?_of_mem hw
  have hl := (List.getElem?_eq_some_iff.mp hn).1
  have h1 : n < W.φ.length := by have := B.len; omega
  have h2 : n < S.length := by have := B.len; omega
  exact (B.cell n _ _ w (List.getElem?_eq_getElem h1) (List.getElem?_eq_getElem h2) hn).there a ha
theorem Base.later {rw : Bool} {S : List Cell} (B : Base rw W S H) (s : Step false W H W H') : Base rw W S H' := by
  have f := s.fut (fun z => by cases z)
  refine ⟨fun a h => ?_, B.len, fun n a x w h1 h2 h3 => ?_, B.apart, B.ownF, B.lN, fun a o h => ?_⟩
  · obtain ⟨o, e⟩ := B.fdom a h
    exact ⟨o, s.keep a o e (fun z => by cases z)⟩
  · have r := B.cell n a x w h1 h2 h3
    refine r.fut f fun y hy => ?_
    obtain ⟨o, e, _⟩ := r.there y hy
    rw [e, s.keep y o e (fun z => by cases z)]
  · obtain ⟨k1, u, k2, k3⟩ := B.lF a o h
    exact ⟨k1, u, s.keep a u k2 (fun z => by cases z), k3⟩
theorem Base.to {r r' : Bool} {S : List Cell} (B : Base r W S H) (h : r' = true → r = true) : Base r' W S H :=
  ⟨B.fdom, B.len, B.cell, B.apart, fun z => B.ownF (h z), B.lN, fun a o e => ⟨(B.lF a o e).1.elim .inl fun z => .inr ⟨(by
    cases r' with
    | false => rfl
    | true => rw [h rfl] at z; cases z.1), z.2⟩, (B.lF a o e).2⟩⟩
theorem Base.back {r r' : Bool} {S S' : List Cell} (B : Base r W S H) (B' : Base r' W' S' H') (e : W'.L = W.L) (s : Step r W H W' H') (hO : r' = false → ∀ a, W'.own a → W.own a) (hn : ∀ a, W'.F a → W.F a ∨ H a = none) : Base r W' S' H' :=
  ⟨B'.fdom, B'.len, B'.cell, B'.apart, fun hr => (by
    cases r' with
    | true => exact B'.ownF rfl
    | false => exact fun a ho hf => (hn a hf).elim (B.ownF hr a (hO rfl a ho)) fun z => (B.own_there (hO rfl a ho)).elim fun o q => by rw [z] at q; cases q.1), B'.lN, fun a o h => ⟨(B.lF a o (by rw [← e]; exact h)).1.elim (fun z => .inl (s.sub a z)) fun z => (s.ownOld a z.2).elim (fun y => .inr ⟨z.1, y⟩) fun y => (by rw [z.1] at y; cases y), (B'.lF a o h).2⟩⟩
theorem Base.add {rw : Bool} {S : List Cell} (B : Base rw W S H) {p : Addr} (hp : ¬ W.own p) (ht : ∃ o, H p = some o) : Base rw (W.add p) S H := by
  refine ⟨fun a h => ?_, B.len, fun n a x w h1 h2 h3 => ?_, B.apart, fun hr a ho hf => ?_, B.lN, fun a o h => ⟨(B.lF a o h).1.elim (fun z => .inl (.inl z)) .inr, (B.lF a o h).2⟩⟩
  · rcases h with h | rfl
    · exact B.fdom a h
    · exact ht
  · exact (B.cell n a x w h1 h2 h3).fut ⟨fun _ _ e => e, fun _ h => .inl h, fun _ _ _ e => e, fun _ _ e => e⟩ fun _ _ => rfl
  · rcases hf with hf | rfl
    · exact B.ownF hr a ho hf
    · exact hp ho
theorem SlotOk.fut {o : O} {x : Option V} (f : Fut W.φ W.F H W'.φ W'.F H') (e : ∀ a, x = some (.ref a) → o.owned = true → H' a = H a) (h : SlotOk W H o x) : SlotOk W' H' o x := by
  cases o with
  | un => exact trivial
  | d y => obtain ⟨v, e1, e2⟩ := h; exact ⟨v, e1, e2.fut f⟩
  | lst _ => obtain ⟨a, e1, e2⟩ := h; exact ⟨a, e1, e2.fut f (e a e1 rfl)⟩
  | dK _ => obtain ⟨a, e1, e2⟩ := h; exact ⟨a, e1, e2.fut f (e a e1 rfl)⟩
  | dT _ => obtain ⟨a, e1, e2⟩ := h; exact ⟨a, e1, e2.fut f (e a e1 rfl)⟩
  | ins _ _ _ => obtain ⟨a, e1, e2⟩ := h; exact ⟨a, e1, e2.fut f (e a e1 rfl)⟩
theorem join_ref {x : Option (Option V)} {v : V} (h : x.join = some v) : x = some (some v) := by
  cases x with
  | none => cases h
  | some y => exact congrArg some h
theorem Pre.sthere (P : Pre c W st σ H) {i : Nat} {a : Addr} (h : slotOwns st.ρ σ i a) : ∃ o, H a = some o ∧ mutO o = true := by
  obtain ⟨o, h1, h2, h3⟩ := h
  have so := P.slot i o h1
  rw [h3] at so
  obtain ⟨b, e1, e2⟩ := SlotOk.own h2 so
  cases e1
  exact e2.there
theorem Pre.ownAt (P : Pre c W st σ H) {i : Nat} {a : Addr} {o : O} (h1 : st.ρ[i]? = some o) (h2 : o.owned = true) (h3 : σ[i]? = some (some (.ref a))) : OwnAt W H a o := by
  have so := P.slot i o h1
  rw [h3] at so
  obtain ⟨b, e1, e2⟩ := SlotOk.own h2 so
  cases e1
  exact e2
theorem Pre.vstep (P : Pre c W st σ H) (s : Step c.rw W H W' H') : st.vw = true → c.rw = false ∧ ∀ a, W'.own a → W'.F a := fun h =>
  ⟨(P.hvw h).1, fun a ho => (s.ownNew a ho).elim (fun z => s.sub a ((P.hvw h).2 a z)) fun z => by rw [(P.hvw h).1] at z; cases z.1⟩
/-- a call (or anything that leaves the slots' things alone) has been made -/
theorem Pre.call (P : Pre c W st σ H) {S' : List Cell} (s : Step c.rw W H W' H') (hn : ∀ a, W'.F a → W.F a ∨ H a = none) (B : Base c.rw W' S' H') : Pre c W' { st with S := S' } σ H' where
  hrw := P.hrw
  step := P.step.trans s
  new := fun a h => (hn a h).elim (P.new a) fun z => .inr (Classical.byContradiction fun y => P.step.dom a y z)
  base := B
  slen := P.slen
  slot := fun i o h => (P.slot i o h).fut (P.fut s) fun a e1 e2 => by
    have so : slotOwns st.ρ σ i a := ⟨o, h, e2, join_ref e1⟩
    obtain ⟨u, e, _⟩ := P.sthere so
    rw [e, s.keep a u e (fun _ => (P.sown i a so).2.1)]
  sown := fun i a h => by
    obtain ⟨h1, h2, h3⟩ := P.sown i a h
    obtain ⟨u, e, _⟩ := P.sthere h
    exact ⟨fun z => (hn a z).elim h1 fun y => (by rw [e] at y; cases y), fun z => (s.ownNew a z).elim h2 fun y => (by rw [e] at y; cases y.2), h3⟩
  sapart := P.sapart
  rsv := fun a h => by
    obtain ⟨h1, h2, ⟨u, e⟩, h4⟩ := P.rsv a h
    exact ⟨fun z => (hn a z).elim h1 fun y => (by rw [e] at y; cases y), fun z => (s.ownNew a z).elim h2 fun y => (by rw [e] at y; cases y.2), ⟨u, s.keep a u e fun _ => h2⟩, h4⟩
  hvw := P.vstep s
  own0 := P.own0
/-- a new plain thing -/
theorem Pre.alloc (P : Pre c W st σ H) {p : Addr} {o : HO} (hp : H p = none) : Step c.rw W H (W.add p) (upd H p o) ∧ Pre c (W.add p) st σ (upd H p o) := by
  have s1 : Step c.rw W H (W.add p) (upd H p o) := (step_new c.rw W hp).trans (step_add c.rw W _ p)
  have hno : ¬ W.own p := fun z => by
    obtain ⟨u, e, _⟩ := P.base.own_there z
    rw [hp] at e
    cases e
  refine ⟨s1, P.call (S' := st.S) s1 (fun a h => h.elim .inl fun e => .inr (by rw [e]; exact hp)) ?_⟩
  exact (P.base.later (step_new false W hp)).add hno ⟨o, upd_same⟩
/-- a new thing, borne by nobody yet -/
theorem Pre.fresh (P : Pre c W st σ H) {p : Addr} {o : HO} (hp : H p = none) : Step c.rw W H W (upd H p o) ∧ Pre c W st σ (upd H p o) ∧ ¬ W.F p ∧ ¬ W.own p ∧ c.H0 p = none ∧ (∀ i, ¬ slotOwns st.ρ σ i p) ∧ ¬ c.R p := by
  have s1 : Step c.rw W H W (upd H p o) := step_new c.rw W hp
  have hno : ¬ W.own p := fun z => by
    obtain ⟨u, e, _⟩ := P.base.own_there z
    rw [hp] at e
    cases e
  refine ⟨s1, P.call (S' := st.S) s1 (fun a h => .inl h) (P.base.later (step_new false W hp)), fun z => ?_, hno, Classical.byContradiction fun y => P.step.dom p y hp, fun i z => ?_, fun z => ?_⟩
  · obtain ⟨u, e⟩ := P.base.fdom p z
    rw [hp] at e
    cases e
  · obtain ⟨u, e, _⟩ := P.sthere z
    rw [hp] at e
    cases e
  · obtain ⟨_, _, ⟨u, e⟩, _⟩ := P.rsv p z
    rw [hp] at e
    cases e
/-- nobody bears p: it becomes plain -/
theorem Pre.freeze0 (P : Pre c W st σ H) {p : Addr} (ho : ¬ W.own p) (h0 : c.H0 p = none) (hs : ∀ i, ¬ slotOwns st.ρ σ i p) (hR : ¬ c.R p) (ht : ∃ o, H p = some o) : Step c.rw W H (W.add p) H ∧ Pre c (W.add p) st σ H := by
  have s1 := step_add c.rw W H p
  refine ⟨s1, P.hrw, P.step.trans s1, fun a h => h.elim (P.new a) fun e => .inr (by rw [e]; exact h0), P.base.add ho ht, P.slen, fun i o h => (P.slot i o h).fut (P.fut s1) fun _ _ _ => rfl, fun i a h => ?_, P.sapart, fun a h => ?_, P.vstep s1, P.own0⟩
  · obtain ⟨h1, h2, h3⟩ := P.sown i a h
    exact ⟨fun z => z.elim h1 fun e => hs i (by rw [← e]; exact h), h2, h3⟩
  · obtain ⟨h1, h2, h3, h4⟩ := P.rsv a h
    exact ⟨fun z => z.elim h1 fun e => hR (by rw [← e]; exact h), h2, h3, h4⟩
end
end Q
namespace Q
open PySem L2
section
variable {c : C0} {W W' : Wd} {st st' : Ps} {σ : L2.St} {H H' : Hp}
theorem owns_set {ρ : List O} {σ : L2.St} {i j : Nat} {o : O} {x : Option V} {a : Addr} (h : slotOwns (ρ.set i o) (σ.set i x) j a) : (j = i ∧ o.owned = true ∧ x = some (.ref a)) ∨ (j ≠ i ∧ slotOwns ρ σ j a) := by
  obtain ⟨u, h1, h2, h3⟩ := h
  by_cases e : j = i
  · subst e
    left
    rw [List.getElem?_set] at h1 h3
    rw [if_pos rfl] at h1 h3
    split at h1
    · split at h3
      · cases h1
        exact ⟨rfl, h2, Option.some.inj h3⟩
      · cases h3
    · cases h1
  · right
    rw [List.getElem?_set_ne (Ne.symm e)] at h1 h3
    exact ⟨e, u, h1, h2, h3⟩
theorem owns_setO {ρ : List O} {σ : L2.St} {i j : Nat} {o : O} {a : Addr} (h : slotOwns (ρ.set i o) σ j a) : (j = i ∧ o.owned = true ∧ σ[i]? = some (some (.ref a))) ∨ (j ≠ i ∧ slotOwns ρ σ j a) := by
  obtain ⟨u, h1, h2, h3⟩ := h
  by_cases e : j = i
  · subst e
    left
    rw [List.getElem?_set] at h1
    rw [if_pos rfl] at h1
    split at h1
    · cases h1
      exact ⟨rfl, h2, h3⟩
    · cases h1
  · right
    rw [List.getElem?_set_ne (Ne.symm e)] at h1
    exact ⟨e, u, h1, h2, h3⟩
/-- a slot is given plain data -/
theorem Pre.set (P : Pre c W st σ H) (i : Nat) {v : V} {d : D} (h : Rp W H v d) : Pre c W { st with ρ := st.ρ.set i (.d d) } (σ.set i (some v)) H where
  hrw := P.hrw
  step := P.step
  new := P.new
  base := P.base
  slen := by simp only [List.length_set]; exact P.slen
  slot := fun j o e => by
    by_cases q : j = i
    · subst q
      rw [List.getElem?_set, if_pos rfl] at e ⊢
      have hl := P.slen
      split at e
      · cases e
        rw [if_pos (by omega)]
        exact ⟨v, rfl, h⟩
      · cases e
    · rw [List.getElem?_set_ne (Ne.symm q)] at e ⊢
      exact P.slot j o e
  sown := fun j a z => by
    rcases owns_set z with ⟨_, z, _⟩ | ⟨_, z⟩
    · cases z
    · exact P.sown j a z
  sapart := fun j k a z y => by
    rcases owns_set z with ⟨_, z, _⟩ | ⟨_, z⟩
    · cases z
    · rcases owns_set y with ⟨_, y, _⟩ | ⟨_, y⟩
      · cases y
      · exact P.sapart j k a z y
  rsv := fun a h => by
    obtain ⟨h1, h2, h3, h4⟩ := P.rsv a h
    refine ⟨h1, h2, h3, fun j z => ?_⟩
    rcases owns_set z with ⟨_, z, _⟩ | ⟨_, z⟩
    · cases z
    · exact h4 j z
  hvw := P.hvw
  own0 := P.own0
/-- a slot is given a thing that nobody bears -/
theorem Pre.setO (P : Pre c W st σ H) (i : Nat) {p : Addr} {o : O} (h : OwnAt W H p o) (hF : ¬ W.F p) (ho : ¬ W.own p) (h0 : c.H0 p = none) (hs : ∀ i, ¬ slotOwns st.ρ σ i p) (hR : ¬ c.R p) : Pre c W { st with ρ := st.ρ.set i o } (σ.set i (some (.ref p))) H where
  hrw := P.hrw
  step := P.step
  new := P.new
  base := P.base
  slen := by simp only [List.length_set]; exact P.slen
  slot := fun j u e => by
    by_cases q : j = i
    · subst q
      rw [List.getElem?_set, if_pos rfl] at e ⊢
      have hl := P.slen
      split at e
      · cases e
        rw [if_pos (by omega)]
        cases o with
        | un => exact trivial
        | d x => exact h.elim
        | lst _ => exact ⟨p, rfl, h⟩
        | dK _ => exact ⟨p, rfl, h⟩
        | dT _ => exact ⟨p, rfl, h⟩
        | ins _ _ _ => exact ⟨p, rfl, h⟩
      · cases e
    · rw [List.getElem?_set_ne (Ne.symm q)] at e ⊢
      exact P.slot j u e
  sown := fun j a z => by
    rcases owns_set z with ⟨_, _, z⟩ | ⟨_, z⟩
    · cases z
      exact ⟨hF, ho, h0⟩
    · exact P.sown j a z
  sapart := fun j k a z y => by
    rcases owns_set z with ⟨e1, _, z⟩ | ⟨_, z⟩
    · rcases owns_set y with ⟨e2, _, y⟩ | ⟨_, y⟩
      · rw [e1, e2]
      · cases z
        exact absurd y (hs k)
    · rcases owns_set y with ⟨e2, _, y⟩ | ⟨_, y⟩
      · cases y
        exact absurd z (hs j)
      · exact P.sapart j k a z y
  rsv := fun a h => by
    obtain ⟨h1, h2, h3, h4⟩ := P.rsv a h
    refine ⟨h1, h2, h3, fun j z => ?_⟩
    rcases owns_set z with ⟨_, _, z⟩ | ⟨_, z⟩
    · cases z
      exact hR h
    · exact h4 j z
  hvw := P.hvw
  own0 := P.own0
/-- a slot's thing becomes plain -/
theorem Pre.freeze (P : Pre c W st σ H) {i : Nat} {a : Addr} {o : O} (h1 : st.ρ[i]? = some o) (h2 : o.owned = true) (h3 : σ[i]? = some (some (.ref a))) :
    Step c.rw W H (W.add a) H ∧ Pre c (W.add a) { st with ρ := st.ρ.set i (.d o.toD) } σ H ∧ Rp (W.add a) H (.ref a) o.toD := by
  have so : slotOwns st.ρ σ i a := ⟨o, h1, h2, h3⟩
  obtain ⟨k1, k2, k3⟩ := P.sown i a so
  obtain ⟨u, hu, _⟩ := P.sthere so
  have s1 := step_add c.rw W H a
  have r : Rp (W.add a) H (.ref a) o.toD := OwnAt.rep (.inr rfl) ((P.ownAt h1 h2 h3).fut (P.fut s1) rfl)
  refine ⟨s1, ⟨P.hrw, P.step.trans s1, fun b h => h.elim (P.new b) fun e => .inr (by rw [e]; exact k3), P.base.add k2 ⟨u, hu⟩, by simp only [List.length_set]; exact P.slen, fun j x h => ?_, fun j b h => ?_, fun j k b z y => ?_, fun b h => ?_, P.vstep s1, P.own0⟩, r⟩
  · by_cases q : j = i
    · subst q
      rw [List.getElem?_set, if_pos rfl] at h
      split at h
      · cases h
        rw [h3]
        exact ⟨_, rfl, r⟩
      · cases h
    · rw [List.getElem?_set_ne (Ne.symm q)] at h
      exact (P.slot j x h).fut (P.fut s1) fun _ _ _ => rfl
  · rcases owns_setO h with ⟨_, z, _⟩ | ⟨ne, z⟩
    · cases z
    · obtain ⟨q1, q2, q3⟩ := P.sown j b z
      exact ⟨fun y => y.elim q1 fun e => ne (P.sapart j i a (by rw [← e]; exact z) so), q2, q3⟩
  · rcases owns_setO z with ⟨_, z, _⟩ | ⟨_, z⟩
    · cases z
    · rcases owns_setO y with ⟨_, y, _⟩ | ⟨_, y⟩
      · cases y
      · exact P.sapart j k b z y
  · obtain ⟨q1, q2, q3, q4⟩ := P.rsv b h
    refine ⟨fun z => z.elim q1 fun e => q4 i (by rw [e]; exact so), q2, q3, fun j z => ?_⟩
    rcases owns_setO z with ⟨_, z, _⟩ | ⟨_, z⟩
    · cases z
    · exact q4 j z
theorem fut_mut (W : Wd) {H : Hp} {a : Addr} {u u' : HO} (hF : ¬ W.F a) (hu : H a = some u) (hm : mutO u = true) : Fut W.φ W.F H W.φ W.F (upd H a u') :=
  ⟨fun _ _ e => e, fun _ h => h, fun b o hb e => by rw [upd_ne (fun z => hF (by rw [← z]; exact hb))]; exact e, fun b xs e => by
    rw [upd_ne (fun z => by subst z; rw [hu] at e; cases e; cases hm)]
    exact e⟩
/-- a slot's thing is changed -/
theorem Pre.mutate (P : Pre c W st σ H) {i : Nat} {a : Addr} {o o' : O} {u' : HO} (h1 : st.ρ[i]? = some o) (h2 : o.owned = true) (h3 : σ[i]? = some (some (.ref a))) (h2' : o'.owned = true)
    (h : Fut W.φ W.F H W.φ W.F (upd H a u') → OwnAt W (upd H a u') a o') : Pre c W { st with ρ := st.ρ.set i o' } σ (upd H a u') := by
  have so : slotOwns st.ρ σ i a := ⟨o, h1, h2, h3⟩
  obtain ⟨k1, k2, k3⟩ := P.sown i a so
  obtain ⟨u, hu, hm⟩ := P.sthere so
  have f := fut_mut W (u' := u') k1 hu hm
  refine ⟨P.hrw, ⟨P.step.cells, P.step.sub, fun b ob e n => ?_, fun b xs e => ?_, fun b e => upd_dom (P.step.dom b e), P.step.ownNew, P.step.locks, P.step.ownOld⟩, P.new, ⟨fun b hb => ?_, P.base.len, fun n b x w q1 q2 q3 => ?_, P.base.apart, P.base.ownF, P.base.lN, fun b ob e => ?_⟩, by simp only [List.length_set]; exact P.slen, fun j x e => ?_, fun j b e => ?_, fun j k b z y => ?_, fun b e => ?_, P.hvw, P.own0⟩
  · rw [upd_ne (fun z => by subst z; rw [k3] at e; cases e)]
    exact P.step.keep b ob e n
  · rw [upd_ne (fun z => by subst z; rw [k3] at e; cases e)]
    exact P.step.tups b xs e
  · obtain ⟨w, q⟩ := P.base.fdom b hb
    exact ⟨w, f.keep b w hb q⟩
  · have r := P.base.cell n b x w q1 q2 q3
    refine r.fut f fun y hy => ?_
    rw [upd_ne]
    intro z
    subst z
    exact k2 ⟨w, List.mem_of_getElem? q3, hy⟩
  · obtain ⟨q1, w, q2, q3⟩ := P.base.lF b ob e
    refine ⟨q1, w, ?_, q3⟩
    rw [upd_ne (fun z => by subst z; exact q1.elim k1 fun y => k2 y.2)]
    exact q2
  · by_cases q : j = i
    · subst q
      rw [List.getElem?_set, if_pos rfl] at e
      split at e
      · cases e
        rw [h3]
        exact SlotOk.of_own h2' (h f)
      · cases e
    · rw [List.getElem?_set_ne (Ne.symm q)] at e
      refine (P.slot j x e).fut f fun b e1 e2 => ?_
      rw [upd_ne]
      intro z
      subst z
      exact q (P.sapart j i b ⟨x, e, e2, join_ref e1⟩ so)
  · rcases owns_setO e with ⟨_, _, z⟩ | ⟨_, z⟩
    · rw [h3] at z
      cases z
      exact ⟨k1, k2, k3⟩
    · exact P.sown j b z
  · rcases owns_setO z with ⟨e1, _, z⟩ | ⟨n1, z⟩
    · rcases owns_setO y with ⟨e2, _, y⟩ | ⟨_, y⟩
      · rw [e1, e2]
      · rw [h3] at z
        cases z
        rw [e1]
        exact P.sapart i k a so y
    · rcases owns_setO y with ⟨e2, _, y⟩ | ⟨_, y⟩
      · rw [h3] at y
        cases y
        rw [e2]
        exact P.sapart j i a z so
      · exact P.sapart j k b z y
  · obtain ⟨q1, q2, ⟨w, q3⟩, q4⟩ := P.rsv b e
    refine ⟨q1, q2, ⟨w, ?_⟩, fun j z => ?_⟩
    · rw [upd_ne (fun z => q4 i (by rw [z]; exact so))]
      exact q3
    · rcases owns_setO z with ⟨_, _, z⟩ | ⟨_, z⟩
      · rw [h3] at z
        cases z
        exact q4 i so
      · exact q4 j z
end

/-! ### judgements over plain states -/
def ExcAt (W : Wd) (H : Hp) (od : Option Addr) (fs : List (Str × D)) : Prop := match od with
  | none => fs = []
  | some d => ∃ xs, H d = some (.xd xs) ∧ RepF W.φ W.F H xs fs
/-- the wish about errors -/
def wish (c : C0) : WX := fun cls od σ H => ∃ W st H1 C fs, H = lockH W.L H1 ∧ Pre c W st σ H1 ∧ cls = .ref C ∧ ExcAt W H1 od fs ∧ c.E C fs st
abbrev Lk (X : Cx) (c : C0) : Prop := Takes X (wish c)
/-- an expression -/
def PX (X : Cx) (e : Expr) (f : Ex) : Prop := ∀ c, Lk X c → PE X e (tX c f)
theorem peOf {X : Cx} {e : Expr} {t t' : TE} (h : PE X e t) (m : ∀ σ H Q, t' σ H Q → t σ H Q) : PE X e t' := ⟨fun pins s σ H Q I q => h.run pins s σ H Q I (m σ H Q q)⟩
theorem ptOf {X : Cx} {e : Expr} {t t' : TT} (h : PT X e t) (m : ∀ σ H Q, t' σ H Q → t σ H Q) : PT X e t' := ⟨fun pins s σ H Q I q => h.run pins s σ H Q I (m σ H Q q)⟩
theorem paOf {X : Cx} {e : List Expr} {t t' : TA} (h : PA X e t) (m : ∀ σ H Q, t' σ H Q → t σ H Q) : PA X e t' := ⟨fun pos pins s σ H Q I q => h.run pos pins s σ H Q I (m σ H Q q)⟩
theorem psOf {X : Cx} {e : Stmt} {t t' : TS} (h : PS X e t) (m : ∀ D σ H, t' D σ H → t D σ H) : PS X e t' := ⟨fun pins s σ H D I q => h.run pins s σ H D I (m D σ H q)⟩
theorem pssOf {X : Cx} {e : List Stmt} {t t' : TS} (h : PSs X e t) (m : ∀ D σ H, t' D σ H → t D σ H) : PSs X e t' := ⟨fun pins s σ H D I q => h.run pins s σ H D I (m D σ H q)⟩
/-- a test -/
abbrev Tx := EK → Ps → (Bool → Ps → Prop) → Prop
def tXT (c : C0) (f : Tx) : TT := fun σ H Q => ∃ W st H1 Q0, H = lockH W.L H1 ∧ Pre c W st σ H1 ∧ f c.E st Q0 ∧
  ∀ b st' W' H2, Q0 b st' → Step c.rw W H1 W' H2 → Pre c W' st' σ H2 → Q b (lockH W'.L H2)
def PXT (X : Cx) (e : Expr) (f : Tx) : Prop := ∀ c, Lk X c → PT X e (tXT c f)
/-- arguments -/
abbrev Ax := EK → Ps → (List R → Ps → Prop) → Prop
inductive RVs (W : Wd) (σ : L2.St) (H : Hp) : List V → List R → Prop
  | nil : RVs W σ H [] []
  | cons {v : V} {r : R} {vs : List V} {rs : List R} : RV W σ H v r → RVs W σ H vs rs → RVs W σ H (v :: vs) (r :: rs)
def tXA (c : C0) (f : Ax) : TA := fun σ H Q => ∃ W st H1 Q0, H = lockH W.L H1 ∧ Pre c W st σ H1 ∧ f c.E st Q0 ∧
  ∀ rs st' vs W' H2, Q0 rs st' → Step c.rw W H1 W' H2 → Pre c W' st' σ H2 → RVs W' σ H2 vs rs → Q vs (lockH W'.L H2)
def PXA (X : Cx) (es : List Expr) (f : Ax) : Prop := ∀ c, Lk X c → PA X es (tXA c f)
theorem RVs.step {c : C0} {W W' : Wd} {st : Ps} {σ : L2.St} {H H' : Hp} (P : Pre c W st σ H) (s : Step c.rw W H W' H') : ∀ {vs : List V} {rs : List R}, RVs W σ H vs rs → RVs W' σ H' vs rs
  | _, _, .nil => .nil
  | _, _, .cons h t => .cons (h.step P s) (t.step P s)
/-- a new thing, or plain data: what a slot may be given -/
def OV (c : C0) (W : Wd) (st : Ps) (σ : L2.St) (H : Hp) (v : V) (o : O) : Prop :=
  match o with
  | .un => False
  | .d x => Rp W H v x
  | o => ∃ a, v = .ref a ∧ OwnAt W H a o ∧ ¬ W.F a ∧ ¬ W.own a ∧ c.H0 a = none ∧ (∀ i, ¬ slotOwns st.ρ σ i a) ∧ ¬ c.R a
abbrev Ox := EK → Ps → (O → Ps → Prop) → Prop
def tO (c : C0) (f : Ox) : TE := fun σ H Q => ∃ W st H1 Q0, H = lockH W.L H1 ∧ Pre c W st σ H1 ∧ f c.E st Q0 ∧
  ∀ o st' v W' H2, Q0 o st' → Step c.rw W H1 W' H2 → Pre c W' st' σ H2 → OV c W' st' σ H2 v o → Q v (lockH W'.L H2)
def PO (X : Cx) (e : Expr) (f : Ox) : Prop := ∀ c, Lk X c → PE X e (tO c f)
/-- blocks and statements -/
structure En where
  nx : Ps → Prop
  rt : O → Ps → Prop
  bk : Ps → Prop
  ct : Ps → Prop
abbrev Sx := EK → En → Ps → Prop
/-- later, by statements: what is plain stays so -/
structure Aft (W : Wd) (H : Hp) (W' : Wd) (H' : Hp) : Prop where
  fut : Fut W.φ W.F H W'.φ W'.F H'
  locks : ∃ more, W'.L = more ++ W.L
theorem Fut.refl (φ F H) : Fut φ F H φ F H := ⟨fun _ _ e => e, fun _ h => h, fun _ _ _ e => e, fun _ _ e => e⟩
theorem Fut.trans {φ F H φ' F' H' φ2 F2 H2} (a : Fut φ F H φ' F' H') (b : Fut φ' F' H' φ2 F2 H2) : Fut φ F H φ2 F2 H2 :=
  ⟨fun n x e => b.cells n x (a.cells n x e), fun x h => b.sub x (a.sub x h), fun x o h e => b.keep x o (a.sub x h) (a.keep x o h e), fun x xs e => b.tups x xs (a.tups x xs e)⟩
theorem Aft.refl (W : Wd) (H : Hp) : Aft W H W H := ⟨.refl _ _ _, [], rfl⟩
theorem Aft.trans {W W1 W2 : Wd} {H H1 H2 : Hp} (a : Aft W H W1 H1) (b : Aft W1 H1 W2 H2) : Aft W H W2 H2 := by
  obtain ⟨m1, e1⟩ := a.locks
  obtain ⟨m2, e2⟩ := b.locks
  exact ⟨a.fut.trans b.fut, m2 ++ m1, by rw [e2, e1, List.append_assoc]⟩
theorem Pre.aft {c : C0} {W W' : Wd} {st : Ps} {σ : L2.St} {H H' : Hp} (P : Pre c W st σ H) (s : Step c.rw W H W' H') : Aft W H W' H' := ⟨P.fut s, s.locks⟩
def enOk (c : C0) (W0 : Wd) (H0 : Hp) (D : Ends) (K : En) : Prop :=
  (∀ st W σ H, K.nx st → Pre c W st σ H → Aft W0 H0 W H → D.nx σ (lockH W.L H)) ∧ (∀ o st W σ H v, K.rt o st → Pre c W st σ H → Aft W0 H0 W H → OV c W st σ H v o → D.rt v (lockH W.L H)) ∧
  (∀ st W σ H, K.bk st → Pre c W st σ H → Aft W0 H0 W H → D.bk σ (lockH W.L H)) ∧ (∀ st W σ H, K.ct st → Pre c W st σ H → Aft W0 H0 W H → D.ct σ (lockH W.L H))
theorem enOk.aft {c : C0} {W W' : Wd} {H H' : Hp} {D : Ends} {K : En} (e : enOk c W H D K) (a : Aft W H W' H') : enOk c W' H' D K :=
  ⟨fun st W2 σ H2 q P b => e.1 st W2 σ H2 q P (a.trans b), fun o st W2 σ H2 v q P b => e.2.1 o st W2 σ H2 v q P (a.trans b), fun st W2 σ H2 q P b => e.2.2.1 st W2 σ H2 q P (a.trans b), fun st W2 σ H2 q P b => e.2.2.2 st W2 σ H2 q P (a.trans b)⟩
def tXS (c : C0) (f : Sx) : TS := fun D σ H => ∃ W st H1 K, H = lockH W.L H1 ∧ Pre c W st σ H1 ∧ enOk c W H1 D K ∧ f c.E K st
def PXS (X : Cx) (s : Stmt) (f : Sx) : Prop := ∀ c, Lk X c → PS X s (tXS c f)
def PXB (X : Cx) (s : List Stmt) (f : Sx) : Prop := ∀ c, Lk X c → PSs X s (tXS c f)
end Q
namespace Q
open PySem L2
def opt {α : Type} (o : Option α) (Q : α → Prop) : Prop := match o with
  | some x => Q x
  | none => False
theorem opt_some {α : Type} (x : α) (Q : α → Prop) : opt (some x) Q = Q x := rfl
theorem opt_none {α : Type} (Q : α → Prop) : opt none Q = False := rfl
theorem opt_ex {α : Type} {o : Option α} {Q : α → Prop} (h : opt o Q) : ∃ x, o = some x ∧ Q x := by
  cases o with
  | none => exact h.elim
  | some x => exact ⟨x, rfl, h⟩
section
variable {X : Cx} {c : C0} {W : Wd} {st : Ps} {σ : L2.St} {H : Hp}
/-! ### what stands in the locked heap -/
theorem Pre.nol (P : Pre c W st σ H) {a : Addr} {u : HO} (h : H a = some u) (hd : dictO u = false) : lockH W.L H a = some u := by
  rw [lock_at]
  · exact h
  · cases e : W.L.lookup a with
    | none => rfl
    | some o =>
      obtain ⟨_, x, e1, e2⟩ := P.base.lF a o e
      rw [h] at e1
      cases e1
      rw [hd] at e2
      cases e2
theorem Pre.lnone' (P : Pre c W st σ H) {p : Addr} (h : lockH W.L H p = none) : H p = none ∧ W.L.lookup p = none := ⟨lock_none h, P.lnone (lock_none h)⟩
/-- what a step that makes o comes to -/
def Res (c : C0) (W : Wd) (st : Ps) (σ : L2.St) (H : Hp) (o : O) (Q : VK) : Prop := ∀ v W' H2, Step c.rw W H W' H2 → Pre c W' st σ H2 → OV c W' st σ H2 v o → Q v (lockH W'.L H2)
theorem Res.d (P : Pre c W st σ H) {x : D} {Q : VK} {v : V} (h : Res c W st σ H (.d x) Q) (r : Rp W H v x) : Q v (lockH W.L H) := h v W H (.refl _ _ _) P r
theorem Res.new (P : Pre c W st σ H) {o : O} {Q : VK} {u : HO} (h : Res c W st σ H o Q) (ho : o.owned = true) (hq : ∀ p, H p = none → OwnAt W (upd H p u) p o) : ∀ p, lockH W.L H p = none → Q (.ref p) (upd (lockH W.L H) p u) := fun p hp => by
  obtain ⟨h1, h2⟩ := P.lnone' hp
  obtain ⟨s, P', f1, f2, f3, f4⟩ := P.fresh (o := u) h1
  rw [lock_upd h2]
  refine h _ _ _ s P' ?_
  have q := hq p h1
  cases o with
  | un => cases ho
  | d x => cases ho
  | lst _ => exact ⟨p, rfl, q, f1, f2, f3, f4⟩
  | dK _ => exact ⟨p, rfl, q, f1, f2, f3, f4⟩
  | dT _ => exact ⟨p, rfl, q, f1, f2, f3, f4⟩
  | ins _ _ _ => exact ⟨p, rfl, q, f1, f2, f3, f4⟩
theorem Res.newT (P : Pre c W st σ H) {ds : List D} {xs : List V} {Q : VK} (h : Res c W st σ H (.d (.tup ds)) Q) (r : RepL W.φ W.F H xs ds) : ∀ p, lockH W.L H p = none → Q (.ref p) (upd (lockH W.L H) p (.tup xs)) := fun p hp => by
  obtain ⟨h1, h2⟩ := P.lnone' hp
  obtain ⟨s, P', _⟩ := P.fresh (o := .tup xs) h1
  rw [lock_upd h2]
  exact h _ _ _ s P' (.tup upd_same (r.fut (P.fut s)))
theorem fut_new (W : Wd) {H : Hp} {p : Addr} {o : HO} (hp : H p = none) : Fut W.φ W.F H W.φ W.F (upd H p o) := ⟨fun _ _ e => e, fun _ h => h, fun _ _ _ e => upd_some hp e, fun _ _ e => upd_some hp e⟩
theorem OV.step {o : O} {v : V} {st' : Ps} (h : OV c W st σ H v o) (e : st'.ρ = st.ρ) : OV c W st' σ H v o := by
  cases o with
  | un => exact h
  | d x => exact h
  | lst _ => obtain ⟨a, h1, h2, h3, h4, h5, h6⟩ := h; exact ⟨a, h1, h2, h3, h4, h5, by rw [e]; exact h6.1, h6.2⟩
  | dK _ => obtain ⟨a, h1, h2, h3, h4, h5, h6⟩ := h; exact ⟨a, h1, h2, h3, h4, h5, by rw [e]; exact h6.1, h6.2⟩
  | dT _ => obtain ⟨a, h1, h2, h3, h4, h5, h6⟩ := h; exact ⟨a, h1, h2, h3, h4, h5, by rw [e]; exact h6.1, h6.2⟩
  | ins _ _ _ => obtain ⟨a, h1, h2, h3, h4, h5, h6⟩ := h; exact ⟨a, h1, h2, h3, h4, h5, by rw [e]; exact h6.1, h6.2⟩
/-- whatever came: as plain data -/
theorem OV.plain (P : Pre c W st σ H) {o : O} {v : V} (h : OV c W st σ H v o) : ∃ W', Step c.rw W H W' H ∧ Pre c W' st σ H ∧ Rp W' H v o.toD ∧ W'.L = W.L := by
  have go : ∀ {o : O} {a : Addr}, OwnAt W H a o → ¬ W.own a → c.H0 a = none → ((∀ i, ¬ slotOwns st.ρ σ i a) ∧ ¬ c.R a) → ∃ W', Step c.rw W H W' H ∧ Pre c W' st σ H ∧ Rp W' H (.ref a) o.toD ∧ W'.L = W.L := fun {o a} q h4 h5 h6 => by
    obtain ⟨u, hu, _⟩ := q.there
    obtain ⟨s, P'⟩ := P.freeze0 h4 h5 h6.1 h6.2 ⟨u, hu⟩
    exact ⟨_, s, P', OwnAt.rep (.inr rfl) (q.fut (P.fut s) rfl), rfl⟩
  cases o with
  | un => exact h.elim
  | d x => exact ⟨W, .refl _ _ _, P, h, rfl⟩
  | lst _ => obtain ⟨a, rfl, h2, h3, h4, h5, h6⟩ := h; exact go h2 h4 h5 h6
  | dK _ => obtain ⟨a, rfl, h2, h3, h4, h5, h6⟩ := h; exact go h2 h4 h5 h6
  | dT _ => obtain ⟨a, rfl, h2, h3, h4, h5, h6⟩ := h; exact go h2 h4 h5 h6
  | ins _ _ _ => obtain ⟨a, rfl, h2, h3, h4, h5, h6⟩ := h; exact go h2 h4 h5 h6
end

/-! ### expressions -/
section
variable {X : Cx} {e a b : Expr} {f f1 f2 : Ex} {g : Ox} {pos : Pos}
def xF (f : Ox) : Ex := fun E st Q => f E st fun o st' => Q (.v o.toD) st'
/-- what came, for a slot: a slot's thing that is read becomes plain -/
def frz (st : Ps) : R → Option (D × Ps)
  | .v d => some (d, st)
  | .ref i => match st.ρ[i]? with
    | some .un => none
    | some (.d x) => some (x, st)
    | some o => some (o.toD, { st with ρ := st.ρ.set i (.d o.toD) })
    | none => none
def xU (f : Ex) : Ox := fun E st Q => f E st fun r st' => opt (frz st' r) fun q => Q (.d q.1) q.2
theorem px_F (h : PO X e g) : PX X e (xF g) := fun c l => peOf (h c l) fun σ H Q ⟨W, st, H1, Q0, hH, P, q, k⟩ => ⟨W, st, H1, _, hH, P, q, fun o st' v W' H2 q0 s P2 ov => by
  obtain ⟨W3, s3, P3, r, eL⟩ := OV.plain P2 ov
  rw [← eL]
  exact k _ _ _ _ _ q0 (s.trans s3) P3 r⟩
theorem frz_ok {c : C0} {W : Wd} {st : Ps} {σ : L2.St} {H : Hp} (P : Pre c W st σ H) {r : R} {v : V} {q : D × Ps} (e : frz st r = some q) (h : RV W σ H v r) : ∃ W', Step c.rw W H W' H ∧ Pre c W' q.2 σ H ∧ Rp W' H v q.1 ∧ W'.L = W.L := by
  cases r with
  | v d =>
    cases e
    exact ⟨W, .refl _ _ _, P, h, rfl⟩
  | ref i =>
    have h' : σ[i]? = some (some v) := h
    unfold frz at e
    dsimp only at e
    cases z : st.ρ[i]? with
    | none => rw [z] at e; cases e
    | some o =>
      rw [z] at e
      have so := P.slot i o z
      rw [h'] at so
      have go : o.owned = true → some (o.toD, { st with ρ := st.ρ.set i (.d o.toD) }) = some q → ∃ W', Step c.rw W H W' H ∧ Pre c W' q.2 σ H ∧ Rp W' H v q.1 ∧ W'.L = W.L := fun ho e => by
        cases e
        obtain ⟨a, e1, e2⟩ := SlotOk.own ho so
        cases e1
        obtain ⟨s, P', r⟩ := P.freeze z ho h'
        exact ⟨_, s, P', r, rfl⟩
      cases o with
      | un => cases e
      | d x =>
        cases e
        obtain ⟨v', e1, e2⟩ := so
        cases e1
        exact ⟨W, .refl _ _ _, P, e2, rfl⟩
      | lst _ => exact go rfl e
      | dK _ => exact go rfl e
      | dT _ => exact go rfl e
      | ins _ _ _ => exact go rfl e
theorem po_U (h : PX X e f) : PO X e (xU f) := fun c l => peOf (h c l) fun σ H Q ⟨W, st, H1, Q0, hH, P, q, k⟩ => ⟨W, st, H1, _, hH, P, q, fun r st' v W' H2 q0 s P2 rv => by
  obtain ⟨y, e, q1⟩ := opt_ex q0
  obtain ⟨W3, s3, P3, r, eL⟩ := frz_ok P2 e rv
  rw [← eL]
  exact k _ _ _ _ _ q1 (s.trans s3) P3 r⟩

/-! ### names and constants -/
def xC (d : D) : Ex := fun _ st Q => Q (.v d) st
def xV (i : Nat) : Ex := fun _ st Q => match st.ρ[i]? with
  | some .un => False
  | some (.d x) => Q (.v x) st
  | some _ => Q (.ref i) st
  | none => False
theorem px_C {d : D} {v : V} (h : PE X e (tC v)) (r : ∀ φ F H, Rep φ F H v d) : PX X e (xC d) := fun c l => peOf h fun σ H Q ⟨W, st, H1, Q0, hH, P, q, k⟩ => by
  subst hH
  exact k _ _ _ _ _ q (.refl _ _ _) P (r _ _ _)
theorem px_int {i j} : PX X (.Constant (.int i) j pos) (xC (.int i)) := px_C pe_int fun _ _ _ => .int _
theorem px_bl {i j} : PX X (.Constant (.bool i) j pos) (xC (.bl i)) := px_C pe_bl fun _ _ _ => .bl _
theorem px_str {i j} : PX X (.Constant (.str i) j pos) (xC (.str i)) := px_C pe_str fun _ _ _ => .str _
theorem px_non {j} : PX X (.Constant .none j pos) (xC .non) := px_C pe_non fun _ _ _ => .non
theorem px_var {i : Nat} (h : PE X e (tVar i)) : PX X e (xV i) := fun c l => peOf h fun σ H Q ⟨W, st, H1, Q0, hH, P, q, k⟩ => by
  subst hH
  unfold xV at q
  cases z : st.ρ[i]? with
  | none => rw [z] at q; exact q.elim
  | some o =>
    rw [z] at q
    have so := P.slot i o z
    have go : ∀ {a : Addr}, σ[i]?.join = some (.ref a) → Q0 (.ref i) st → tVar i σ (lockH W.L H1) Q := fun {a} e1 q => ⟨_, join_ref e1, k _ _ _ _ _ q (.refl _ _ _) P (join_ref e1)⟩
    cases o with
    | un => exact q.elim
    | d x =>
      obtain ⟨v', e1, e2⟩ := so
      exact ⟨v', join_ref e1, k _ _ _ _ _ q (.refl _ _ _) P e2⟩
    | lst _ => obtain ⟨a, e1, e2⟩ := so; exact go e1 q
    | dK _ => obtain ⟨a, e1, e2⟩ := so; exact go e1 q
    | dT _ => obtain ⟨a, e1, e2⟩ := so; exact go e1 q
    | ins _ _ _ => obtain ⟨a, e1, e2⟩ := so; exact go e1 q

/-! ### operators: g of the data -/
def xOp (g : D → D → Option O) (f1 f2 : Ex) : Ox := fun E st Q => f1 E st fun r1 st1 => f2 E st1 fun r2 st2 => opt (look st2 r1) fun d1 => opt (look st2 r2) fun d2 => opt (g d1 d2) fun o => Q o st2
def OpG (r : V → V → Hp → VK → Prop) (g : D → D → Option O) : Prop := ∀ c W st σ H v1 v2 d1 d2 o Q, Pre c W st σ H → Top W.φ W.F H v1 d1 → Top W.φ W.F H v2 d2 → g d1 d2 = some o → Res c W st σ H o Q → r v1 v2 (lockH W.L H) Q
/-- two parts, then a step by values -/
theorem op_go {r : V → V → Hp → VK → Prop} {g : D → D → Option O} (hr : OpG r g) {c : C0} {σ : L2.St} {H : Hp} {Q : VK} (h : tO c (xOp g f1 f2) σ H Q) : tX c f1 σ H fun x H1 => tX c f2 σ H1 fun y H2 => r x y H2 Q := by
  obtain ⟨W, st, H1, Q0, hH, P, q, k⟩ := h
  refine ⟨W, st, H1, _, hH, P, q, fun r1 st1 v1 W1 H2 q1 s1 P1 rv1 => ⟨W1, st1, H2, _, rfl, P1, q1, fun r2 st2 v2 W2 H3 q2 s2 P2 rv2 => ?_⟩⟩
  obtain ⟨d1, e1, q2⟩ := opt_ex q2
  obtain ⟨d2, e2, q2⟩ := opt_ex q2
  obtain ⟨o, e3, q2⟩ := opt_ex q2
  exact hr c W2 st2 σ H3 v1 v2 d1 d2 o Q P2 (P2.top (rv1.step P1 s2) e1) (P2.top rv2 e2) e3 fun v W' H4 s4 P4 ov => k _ _ _ _ _ q2 ((s1.trans s2).trans s4) P4 ov
theorem po_2 {ee : Expr} {r : V → V → Hp → VK → Prop} {g : D → D → Option O} (hr : OpG r g) (h : ∀ {t1 t2 : TE}, PE X a t1 → PE X b t2 → PE X ee (tOp r t1 t2)) (h1 : PX X a f1) (h2 : PX X b f2) : PO X ee (xOp g f1 f2) :=
  fun c l => peOf (h (h1 c l) (h2 c l)) fun σ H Q q => op_go hr q
/-- one part, then a step by values -/
def xUn (g : List Cell → D → (O → Prop) → Prop) (f : Ex) : Ox := fun E st Q => f E st fun r st1 => opt (look st1 r) fun d => g st1.S d fun o => Q o st1
def UnG (r : V → Hp → VK → Prop) (g : List Cell → D → (O → Prop) → Prop) : Prop := ∀ (c : C0) (W : Wd) (st : Ps) (σ : L2.St) (H : Hp) (v : V) (d : D) (Q : VK) (J : O → Prop), Pre c W st σ H → Top W.φ W.F H v d → g st.S d J → (∀ o, J o → Res c W st σ H o Q) → r v (lockH W.L H) Q
theorem po_1 {ee : Expr} {r : V → Hp → VK → Prop} {g : List Cell → D → (O → Prop) → Prop} (hr : UnG r g) (h : ∀ {t : TE}, PE X a t → PE X ee (fun σ H Q => t σ H fun x H1 => r x H1 Q)) (h1 : PX X a f) : PO X ee (xUn g f) :=
  fun c l => peOf (h (h1 c l)) fun σ H Q ⟨W, st, H1, Q0, hH, P, q, k⟩ => ⟨W, st, H1, _, hH, P, q, fun r1 st1 v W1 H2 q1 s1 P1 rv => by
    obtain ⟨d, e, q1⟩ := opt_ex q1
    exact hr c W1 st1 σ H2 v d Q _ P1 (P1.top rv e) q1 fun o qo v' W' H4 s4 P4 ov => k _ _ _ _ _ qo (s1.trans s4) P4 ov⟩
end
end Q
namespace Q
open PySem L2
/-! ### arguments -/
section
variable {X : Cx} {e a b : Expr} {es : List Expr} {f f1 f2 : Ex} {g : Ox} {ga : Ax} {pos p : Pos}
def xNil : Ax := fun _ st Q => Q [] st
def xCons (f : Ex) (g : Ax) : Ax := fun E st Q => f E st fun r st1 => g E st1 fun rs st2 => Q (r :: rs) st2
theorem pxa_nil : PXA X [] xNil := fun c l => paOf pa_nil fun σ H Q ⟨W, st, H1, Q0, hH, P, q, k⟩ => by
  subst hH
  exact k _ _ _ _ _ q (.refl _ _ _) P .nil
theorem args_go {c : C0} {σ : L2.St} {H : Hp} {Q : List V → Hp → Prop} (h : tXA c (xCons f ga) σ H Q) : tX c f σ H fun x H1 => tXA c ga σ H1 fun xs H2 => Q (x :: xs) H2 := by
  obtain ⟨W, st, H1, Q0, hH, P, q, k⟩ := h
  exact ⟨W, st, H1, _, hH, P, q, fun r1 st1 v1 W1 H2 q1 s1 P1 rv1 => ⟨W1, st1, H2, _, rfl, P1, q1, fun rs st2 vs W2 H3 q2 s2 P2 rvs => k _ _ _ _ _ q2 (s1.trans s2) P2 (.cons (rv1.step P1 s2) rvs)⟩⟩
theorem pxa_cons (h : PX X e f) (hr : PXA X es ga) (hs : starEach (e :: es) X.env = (false, eval e X.env) :: starEach es X.env := by rfl) : PXA X (e :: es) (xCons f ga) := fun c l =>
  paOf (pa_cons (h c l) (hr c l) hs) fun σ H Q h => args_go h
def looks (st : Ps) : List R → Option (List D)
  | [] => some []
  | r :: rs => match look st r, looks st rs with
    | some d, some ds => some (d :: ds)
    | _, _ => none
inductive Tops (φ : List (Addr × Addr)) (F : Addr → Prop) (H : Hp) : List V → List D → Prop
  | nil : Tops φ F H [] []
  | cons {v : V} {d : D} {vs : List V} {ds : List D} : Top φ F H v d → Tops φ F H vs ds → Tops φ F H (v :: vs) (d :: ds)
theorem Pre.tops {c : C0} {W : Wd} {st : Ps} {σ : L2.St} {H : Hp} (P : Pre c W st σ H) : ∀ {rs : List R} {vs : List V} {ds : List D}, RVs W σ H vs rs → looks st rs = some ds → Tops W.φ W.F H vs ds
  | [], _, _, .nil, e => by cases e; exact .nil
  | r :: rs, _, _, .cons h t, e => by
    unfold looks at e
    cases q1 : look st r with
    | none => rw [q1] at e; cases e
    | some d =>
      cases q2 : looks st rs with
      | none => rw [q1, q2] at e; cases e
      | some ds =>
        rw [q1, q2] at e
        cases e
        exact .cons (P.top h q1) (P.tops t q2)
def frzs (st : Ps) : List R → Option (List D × Ps)
  | [] => some ([], st)
  | r :: rs => match frz st r with
    | none => none
    | some q => match frzs q.2 rs with
      | none => none
      | some q' => some (q.1 :: q'.1, q'.2)
theorem frzs_ok {c : C0} {σ : L2.St} {H : Hp} : ∀ {rs : List R} {W : Wd} {st : Ps} {vs : List V} {q : List D × Ps}, Pre c W st σ H → frzs st rs = some q → RVs W σ H vs rs → ∃ W', Step c.rw W H W' H ∧ Pre c W' q.2 σ H ∧ RepL W'.φ W'.F H vs q.1 ∧ W'.L = W.L
  | [], W, st, _, q, P, e, .nil => by cases e; exact ⟨W, .refl _ _ _, P, .nil, rfl⟩
  | r :: rs, W, st, _, q, P, e, .cons h t => by
    unfold frzs at e
    cases q1 : frz st r with
    | none => rw [q1] at e; cases e
    | some y =>
      rw [q1] at e
      dsimp only at e
      cases q2 : frzs y.2 rs with
      | none => rw [q2] at e; cases e
      | some z =>
        rw [q2] at e
        cases e
        obtain ⟨W1, s1, P1, r1, l1⟩ := frz_ok P q1 h
        obtain ⟨W2, s2, P2, r2, l2⟩ := frzs_ok P1 q2 (t.step P s1)
        exact ⟨W2, s1.trans s2, P2, .cons (r1.fut (P1.fut s2)) r2, l2.trans l1⟩
/-! ### displays -/
def xTup (g : Ax) : Ox := fun E st Q => g E st fun rs st1 => opt (frzs st1 rs) fun q => q.1.length ≤ sizeLine ∧ Q (.d (.tup q.1)) q.2
def xLst (g : Ax) : Ox := fun E st Q => g E st fun rs st1 => opt (frzs st1 rs) fun q => q.1.length ≤ sizeLine ∧ Q (.lst q.1) q.2
theorem RepL.length {φ F H} : ∀ {vs : List V} {ds : List D}, RepL φ F H vs ds → vs.length = ds.length
  | _, _, .nil => rfl
  | _, _, .cons _ t => congrArg (· + 1) t.length
theorem po_tup {x1} (h : PXA X es ga) : PO X (.Tuple es x1 pos) (xTup ga) := fun c l => peOf (pe_tup (h c l)) fun σ H Q ⟨W, st, H1, Q0, hH, P, q, k⟩ => ⟨W, st, H1, _, hH, P, q, fun rs st1 vs W1 H2 q1 s1 P1 rvs => by
  obtain ⟨y, e, hl, q2⟩ := opt_ex q1
  obtain ⟨W2, s2, P2, r2, eL⟩ := frzs_ok P1 e rvs
  rw [← eL]
  exact ⟨by rw [r2.length]; exact hl, Res.newT P2 (fun v W' H3 s3 P3 ov => k _ _ _ _ _ q2 ((s1.trans s2).trans s3) P3 ov) r2⟩⟩
theorem po_lst (h : PXA X es ga) : PO X (.List es pos) (xLst ga) := fun c l => peOf (pe_lst (h c l)) fun σ H Q ⟨W, st, H1, Q0, hH, P, q, k⟩ => ⟨W, st, H1, _, hH, P, q, fun rs st1 vs W1 H2 q1 s1 P1 rvs => by
  obtain ⟨y, e, hl, q2⟩ := opt_ex q1
  obtain ⟨W2, s2, P2, r2, eL⟩ := frzs_ok P1 e rvs
  rw [← eL]
  exact ⟨by rw [r2.length]; exact hl, Res.new P2 (o := .lst y.1) (fun v W' H3 s3 P3 ov => k _ _ _ _ _ q2 ((s1.trans s2).trans s3) P3 ov) rfl fun p hp => ⟨vs, upd_same, r2.fut (fut_new W2 hp)⟩⟩⟩
/-! ### built-in calls: g of the data -/
abbrev Gc := List D → (O → Prop) → Prop
def xB (g : Gc) (fs : Ax) : Ox := fun E st Q => fs E st fun rs st1 => opt (looks st1 rs) fun ds => g ds fun o => Q o st1
def CallG (r : List V → Hp → VK → Prop) (g : Gc) : Prop := ∀ (c : C0) (W : Wd) (st : Ps) (σ : L2.St) (H : Hp) (vs : List V) (ds : List D) (Q : VK) (J : O → Prop), Pre c W st σ H → Tops W.φ W.F H vs ds → g ds J → (∀ o, J o → Res c W st σ H o Q) → r vs (lockH W.L H) Q
theorem b_go {r : List V → Hp → VK → Prop} {g : Gc} (hr : CallG r g) {c : C0} {σ : L2.St} {H : Hp} {Q : VK} (h : tO c (xB g ga) σ H Q) : tXA c ga σ H fun vs H1 => r vs H1 Q := by
  obtain ⟨W, st, H1, Q0, hH, P, q, k⟩ := h
  refine ⟨W, st, H1, _, hH, P, q, fun rs st1 vs W1 H2 q1 s1 P1 rvs => ?_⟩
  obtain ⟨ds, e1, q1⟩ := opt_ex q1
  exact hr c W1 st1 σ H2 vs ds Q _ P1 (P1.tops rvs e1) q1 fun o qo v W' H4 s4 P4 ov => k _ _ _ _ _ qo (s1.trans s4) P4 ov
theorem po_b {ee : Expr} {r : List V → Hp → VK → Prop} {g : Gc} (hr : CallG r g) (h : ∀ {t : TA}, PA X es t → PE X ee (tCB r t)) (ha : PXA X es ga) : PO X ee (xB g ga) := fun c l => peOf (h (ha c l)) fun σ H Q q => b_go hr q
/-! ### tests -/
def truD : D → Option Bool
  | .non => some false
  | .bl b => some b
  | .int i => some (i != 0)
  | .lst xs => some (!xs.isEmpty)
  | .tup xs => some (!xs.isEmpty)
  | _ => none
def xT (f : Ex) : Tx := fun E st Q => f E st fun r st1 => opt (look st1 r) fun d => opt (truD d) fun b => Q b st1
theorem RepL.isEmpty {φ F H} : ∀ {vs : List V} {ds : List D}, RepL φ F H vs ds → ds.isEmpty = vs.isEmpty
  | _, _, .nil => rfl
  | _, _, .cons _ _ => rfl
theorem pxt_val (h : PX X e f) (he : ∀ whole, isTrue e X.env whole = (do let v ← whole; standAt e.pos; holding [v] (truthy v)) := by intro _; rfl) : PXT X e (xT f) := fun c l => ptOf (pt_truth (h c l) he) fun σ H Q ⟨W, st, H1, Q0, hH, P, q, k⟩ => ⟨W, st, H1, _, hH, P, q, fun r st1 v W1 H2 q1 s1 P1 rv => by
  obtain ⟨d, e1, q1⟩ := opt_ex q1
  obtain ⟨b, e2, q1⟩ := opt_ex q1
  have t := P1.top rv e1
  refine ⟨b, ?_, k _ _ _ _ q1 s1 P1⟩
  cases t with
  | non => cases e2; rfl
  | bl x => cases e2; rfl
  | int i => cases e2; rfl
  | str i => cases e2
  | byt i => cases e2
  | ty i => cases e2
  | cls i => cases e2
  | cell i => cases e2
  | rows i => cases e2
  | scr i => cases e2
  | dK h1 h2 => cases e2
  | dT h1 h2 => cases e2
  | ins h1 h2 => cases e2
  | lst h1 h2 => cases e2; exact .inl ⟨_, SqL.of (P1.nol h1 rfl), by rw [h2.isEmpty]⟩
  | tup h1 h2 => cases e2; exact .inr (.inl ⟨_, SqT.of (P1.nol h1 rfl), by rw [h2.isEmpty]⟩)⟩
/-- an expression's value, as a bool -/
def isB : O → Option Bool
  | .d (.bl b) => some b
  | _ => none
def xTO (f : Ox) : Tx := fun E st Q => f E st fun o st1 => opt (isB o) fun b => Q b st1
theorem ov_bl {c : C0} {W : Wd} {st : Ps} {σ : L2.St} {H : Hp} {v : V} {o : O} {b : Bool} (h : OV c W st σ H v o) (e : isB o = some b) : v = .bl b := by
  unfold isB at e
  split at e
  · cases e
    have h' : Rp W H v (.bl _) := h
    cases h'
    rfl
  · cases e
theorem pxt_2 {ee : Expr} {r : V → V → Hp → VK → Prop} {g : D → D → Option O} (hr : OpG r g) (h : ∀ {t1 t2 : TE}, PE X a t1 → PE X b t2 → PT X ee (tTest (tOp r t1 t2))) (h1 : PX X a f1) (h2 : PX X b f2) : PXT X ee (xTO (xOp g f1 f2)) :=
  fun c l => ptOf (h (h1 c l) (h2 c l)) fun σ H Q h => by
    obtain ⟨W, st, H1, Q0, hH, P, q, k⟩ := h
    refine op_go hr (f1 := f1) (f2 := f2) ⟨W, st, H1, _, hH, P, q, fun o st1 v W1 H2 q1 s1 P1 ov => ?_⟩
    obtain ⟨d, e1, q1⟩ := opt_ex q1
    exact ⟨d, ov_bl ov e1, k _ _ _ _ q1 s1 P1⟩
def xNotT (t : Tx) : Tx := fun E st Q => t E st fun b st1 => Q (!b) st1
def xAndT (t u : Tx) : Tx := fun E st Q => t E st fun b st1 => if b = true then u E st1 Q else Q false st1
def xOrT (t u : Tx) : Tx := fun E st Q => t E st fun b st1 => if b = true then Q true st1 else u E st1 Q
variable {tt uu : Tx} {rest : List Expr}
theorem pxt_not (h : PXT X a tt) : PXT X (.UnaryOp .Not a pos) (xNotT tt) := fun c l => ptOf (pt_not (h c l)) fun σ H Q ⟨W, st, H1, Q0, hH, P, q, k⟩ => ⟨W, st, H1, _, hH, P, q, fun b st1 W1 H2 q1 s1 P1 => k _ _ _ _ q1 s1 P1⟩
def PXW (X : Cx) (e : Expr) (f : Tx) : Prop := ∀ c, Lk X c → PW X e (tXT c f)
theorem pwOf {e : Expr} {t t' : TT} (h : PW X e t) (m : ∀ σ H Q, t' σ H Q → t σ H Q) : PW X e t' := ⟨fun wh pins s σ H Q I q => h.run wh pins s σ H Q I (m σ H Q q)⟩
theorem pxw_t (h : PXW X e tt) : PXT X e tt := fun c l => PW.pt (h c l)
theorem pxw_and1 (h : PXT X a tt) : PXW X (.BoolOp .And [a] pos) tt := fun c l => pw_and1 (h c l)
theorem pxw_or1 (h : PXT X a tt) : PXW X (.BoolOp .Or [a] pos) tt := fun c l => pw_or1 (h c l)
theorem pxw_and (h1 : PXT X a tt) (h2 : PXW X (.BoolOp .And (b :: rest) pos) uu) : PXW X (.BoolOp .And (a :: b :: rest) pos) (xAndT tt uu) := fun c l => pwOf (pw_and (h1 c l) (h2 c l)) fun σ H Q ⟨W, st, H1, Q0, hH, P, q, k⟩ => ⟨W, st, H1, _, hH, P, q, fun b st1 W1 H2 q1 s1 P1 => by
  cases b with
  | true => exact iteT ⟨W1, st1, H2, Q0, rfl, P1, q1, fun b st2 W2 H3 q2 s2 P2 => k _ _ _ _ q2 (s1.trans s2) P2⟩
  | false => exact iteF (k _ _ _ _ q1 s1 P1)⟩
theorem pxw_or (h1 : PXT X a tt) (h2 : PXW X (.BoolOp .Or (b :: rest) pos) uu) : PXW X (.BoolOp .Or (a :: b :: rest) pos) (xOrT tt uu) := fun c l => pwOf (pw_or (h1 c l) (h2 c l)) fun σ H Q ⟨W, st, H1, Q0, hH, P, q, k⟩ => ⟨W, st, H1, _, hH, P, q, fun b st1 W1 H2 q1 s1 P1 => by
  cases b with
  | false => exact iteF ⟨W1, st1, H2, Q0, rfl, P1, q1, fun b st2 W2 H3 q2 s2 P2 => k _ _ _ _ q2 (s1.trans s2) P2⟩
  | true => exact iteT (k _ _ _ _ q1 s1 P1)⟩
/-! ### and, or, not as values of bools; a if t else b -/
def xAnd (f : Ex) (g : Ex) : Ex := fun E st Q => f E st fun r st1 => match r with
  | .v (.bl b) => if b = true then g E st1 Q else Q (.v (.bl false)) st1
  | _ => False
def xOr (f : Ex) (g : Ex) : Ex := fun E st Q => f E st fun r st1 => match r with
  | .v (.bl b) => if b = true then Q (.v (.bl true)) st1 else g E st1 Q
  | _ => False
def xNot (f : Ex) : Ex := fun E st Q => f E st fun r st1 => match r with
  | .v (.bl b) => Q (.v (.bl (!b))) st1
  | _ => False
theorem px_one {op} (h : PX X a f) : PX X (.BoolOp op [a] pos) f := fun c l => pe_one (h c l)
theorem rv_bl {W : Wd} {σ : L2.St} {H : Hp} {v : V} {b : Bool} (h : RV W σ H v (.v (.bl b))) : v = .bl b := by
  have h' : Rp W H v (.bl b) := h
  cases h'
  rfl
theorem px_and (h1 : PX X a f1) (h2 : PX X (.BoolOp .And (b :: rest) pos) f2) : PX X (.BoolOp .And (a :: b :: rest) pos) (xAnd f1 f2) := fun c l => peOf (pe_and (h1 c l) (h2 c l)) fun σ H Q ⟨W, st, H1, Q0, hH, P, q, k⟩ => ⟨W, st, H1, _, hH, P, q, fun r st1 v W1 H2 q1 s1 P1 rv => by
  split at q1
  · rename_i b
    refine ⟨b, rv_bl rv, ?_⟩
    cases b with
    | true => exact iteT ⟨W1, st1, H2, Q0, rfl, P1, q1, fun r st2 v W2 H3 q2 s2 P2 rv => k _ _ _ _ _ q2 (s1.trans s2) P2 rv⟩
    | false => exact iteF (k _ _ _ _ _ q1 s1 P1 (.bl false))
  · exact q1.elim⟩
theorem px_or (h1 : PX X a f1) (h2 : PX X (.BoolOp .Or (b :: rest) pos) f2) : PX X (.BoolOp .Or (a :: b :: rest) pos) (xOr f1 f2) := fun c l => peOf (pe_or (h1 c l) (h2 c l)) fun σ H Q ⟨W, st, H1, Q0, hH, P, q, k⟩ => ⟨W, st, H1, _, hH, P, q, fun r st1 v W1 H2 q1 s1 P1 rv => by
  split at q1
  · rename_i b
    refine ⟨b, rv_bl rv, ?_⟩
    cases b with
    | false => exact iteF ⟨W1, st1, H2, Q0, rfl, P1, q1, fun r st2 v W2 H3 q2 s2 P2 rv => k _ _ _ _ _ q2 (s1.trans s2) P2 rv⟩
    | true => exact iteT (k _ _ _ _ _ q1 s1 P1 (.bl true))
  · exact q1.elim⟩
theorem px_not (h1 : PX X a f1) : PX X (.UnaryOp .Not a pos) (xNot f1) := fun c l => peOf (pe_not (h1 c l)) fun σ H Q ⟨W, st, H1, Q0, hH, P, q, k⟩ => ⟨W, st, H1, _, hH, P, q, fun r st1 v W1 H2 q1 s1 P1 rv => by
  split at q1
  · rename_i b
    exact ⟨b, rv_bl rv, k _ _ _ _ _ q1 s1 P1 (.bl _)⟩
  · exact q1.elim⟩
def xIf (t : Tx) (f g : Ex) : Ex := fun E st Q => t E st fun b st1 => if b = true then f E st1 Q else g E st1 Q
def xIfO (t : Tx) (f g : Ox) : Ox := fun E st Q => t E st fun b st1 => if b = true then f E st1 Q else g E st1 Q
theorem px_if {x : Expr} (h : PXT X x tt) (h1 : PX X a f1) (h2 : PX X b f2) : PX X (.IfExp x a b pos) (xIf tt f1 f2) := fun c l => peOf (pe_ifExp (h c l) (h1 c l) (h2 c l)) fun σ H Q ⟨W, st, H1, Q0, hH, P, q, k⟩ => ⟨W, st, H1, _, hH, P, q, fun b st1 W1 H2 q1 s1 P1 => by
  cases b with
  | true => exact iteT ⟨W1, st1, H2, Q0, rfl, P1, q1, fun r st2 v W2 H3 q2 s2 P2 rv => k _ _ _ _ _ q2 (s1.trans s2) P2 rv⟩
  | false => exact iteF ⟨W1, st1, H2, Q0, rfl, P1, q1, fun r st2 v W2 H3 q2 s2 P2 rv => k _ _ _ _ _ q2 (s1.trans s2) P2 rv⟩⟩
theorem po_if {x : Expr} {g1 g2 : Ox} (h : PXT X x tt) (h1 : PO X a g1) (h2 : PO X b g2) : PO X (.IfExp x a b pos) (xIfO tt g1 g2) := fun c l => peOf (pe_ifExp (h c l) (h1 c l) (h2 c l)) fun σ H Q ⟨W, st, H1, Q0, hH, P, q, k⟩ => ⟨W, st, H1, _, hH, P, q, fun b st1 W1 H2 q1 s1 P1 => by
  cases b with
  | true => exact iteT ⟨W1, st1, H2, Q0, rfl, P1, q1, fun r st2 v W2 H3 q2 s2 P2 rv => k _ _ _ _ _ q2 (s1.trans s2) P2 rv⟩
  | false => exact iteF ⟨W1, st1, H2, Q0, rfl, P1, q1, fun r st2 v W2 H3 q2 s2 P2 rv => k _ _ _ _ _ q2 (s1.trans s2) P2 rv⟩⟩
end
end Q
namespace Q
open PySem L2
/-! ### data of the library's kind -/
mutual
def toP : D → Option PyData
  | .non => some .none
  | .bl b => some (.bool b)
  | .int i => some (.int i)
  | .str s => some (.str s)
  | .lst xs => match toPs xs with
    | some ps => some (.list ps)
    | none => none
  | .tup xs => match toPs xs with
    | some ps => some (.tuple ps)
    | none => none
  | _ => none
def toPs : List D → Option (List PyData)
  | [] => some []
  | x :: xs => match toP x, toPs xs with
    | some p, some ps => some (p :: ps)
    | _, _ => none
end
section
variable {c : C0} {W : Wd} {st : Ps} {σ : L2.St} {H : Hp} {K : PySem.W.Frag}
mutual
theorem Pre.dp (P : Pre c W st σ H) : ∀ {d : D} {v : V} {p : PyData}, Rp W H v d → toP d = some p → Dp K (lockH W.L H) v p
  | .non, _, _, h, e => by cases h; cases e; exact .non
  | .bl b, _, _, h, e => by cases h; cases e; exact .bl b
  | .int b, _, _, h, e => by cases h; cases e; exact .int b
  | .str b, _, _, h, e => by cases h; cases e; exact .str b
  | .lst xs, _, _, h, e => by
    cases h with
    | lst h1 h2 h3 =>
      unfold toP at e
      cases q : toPs xs with
      | none => rw [q] at e; cases e
      | some ps =>
        rw [q] at e
        cases e
        exact .lst (SqL.of (P.nol h2 rfl)) (P.dps h3 q)
  | .tup xs, _, _, h, e => by
    cases h with
    | tup h2 h3 =>
      unfold toP at e
      cases q : toPs xs with
      | none => rw [q] at e; cases e
      | some ps =>
        rw [q] at e
        cases e
        exact .tup (SqT.of (P.nol h2 rfl)) (P.dps h3 q)
  | .byt _, _, _, _, e => by cases e
  | .ty _, _, _, _, e => by cases e
  | .dK _, _, _, _, e => by cases e
  | .dT _, _, _, _, e => by cases e
  | .ins _ _, _, _, _, e => by cases e
  | .cell _, _, _, _, e => by cases e
  | .rows _, _, _, _, e => by cases e
  | .cls _, _, _, _, e => by cases e
  | .scr _, _, _, _, e => by cases e
theorem Pre.dps (P : Pre c W st σ H) : ∀ {ds : List D} {vs : List V} {ps : List PyData}, RepL W.φ W.F H vs ds → toPs ds = some ps → DpAll K (lockH W.L H) vs ps
  | [], _, _, h, e => by cases h; cases e; exact .nil
  | d :: ds, _, _, h, e => by
    cases h with
    | cons h1 h2 =>
      unfold toPs at e
      cases q1 : toP d with
      | none => rw [q1] at e; cases e
      | some p =>
        cases q2 : toPs ds with
        | none => rw [q1, q2] at e; cases e
        | some ps =>
          rw [q1, q2] at e
          cases e
          exact .cons (P.dp h1 q1) (P.dps h2 q2)
end
theorem Pre.dpt (P : Pre c W st σ H) {d : D} {v : V} {p : PyData} (h : Top W.φ W.F H v d) (e : toP d = some p) : Dp K (lockH W.L H) v p := by
  cases h with
  | non => cases e; exact .non
  | bl b => cases e; exact .bl b
  | int b => cases e; exact .int b
  | str b => cases e; exact .str b
  | lst h2 h3 =>
    unfold toP at e
    split at e
    · rename_i q
      cases e
      exact .lst (SqL.of (P.nol h2 rfl)) (P.dps h3 q)
    · cases e
  | tup h2 h3 =>
    unfold toP at e
    split at e
    · rename_i q
      cases e
      exact .tup (SqT.of (P.nol h2 rfl)) (P.dps h3 q)
    · cases e
  | byt _ => cases e
  | ty _ => cases e
  | dK _ _ => cases e
  | dT _ _ => cases e
  | ins _ _ => cases e
  | cell _ => cases e
  | rows _ => cases e
  | cls _ => cases e
  | scr _ => cases e
end
/-! ### == and != -/
def eqP (a b : D) : Option Bool := match toP a, toP b with
  | some p, some q => if SeqAt.shaped p && SeqAt.shaped q then some (PyData.eqv p q) else none
  | _, _ => none
def eqG (a b : D) : Option O := match eqP a b with
  | some x => some (.d (.bl x))
  | none => none
def neG (a b : D) : Option O := match eqP a b with
  | some x => some (.d (.bl (!x)))
  | none => none
theorem eqP_ex {a b : D} {x : Bool} (h : eqP a b = some x) : ∃ p q, toP a = some p ∧ toP b = some q ∧ SeqAt.shaped p = true ∧ SeqAt.shaped q = true ∧ x = PyData.eqv p q := by
  unfold eqP at h
  cases e1 : toP a with
  | none => rw [e1] at h; cases h
  | some p =>
    cases e2 : toP b with
    | none => rw [e1, e2] at h; cases h
    | some q =>
      rw [e1, e2] at h
      dsimp only at h
      split at h
      · rename_i hs
        cases h
        rw [Bool.and_eq_true_iff] at hs
        exact ⟨p, q, rfl, rfl, hs.1, hs.2, rfl⟩
      · cases h
theorem g_eq (K : PySem.W.Frag) : OpG (rEqD K) eqG := fun c W st σ H v1 v2 d1 d2 o Q P t1 t2 e h => by
  unfold eqG at e
  split at e
  · rename_i x q
    cases e
    obtain ⟨p, q', e1, e2, e3, e4, rfl⟩ := eqP_ex q
    exact ⟨p, q', P.dpt t1 e1, P.dpt t2 e2, e3, e4, h.d P (.bl _)⟩
  · cases e
theorem g_ne (K : PySem.W.Frag) : OpG (rNeD K) neG := fun c W st σ H v1 v2 d1 d2 o Q P t1 t2 e h => by
  unfold neG at e
  split at e
  · rename_i x q
    cases e
    obtain ⟨p, q', e1, e2, e3, e4, rfl⟩ := eqP_ex q
    exact ⟨p, q', P.dpt t1 e1, P.dpt t2 e2, e3, e4, h.d P (.bl _)⟩
  · cases e
/-! ### numbers -/
def addG : D → D → Option O
  | .int i, .int j => some (.d (.int (i + j)))
  | .str a, .str b => if a.length + b.length ≤ sizeLine then some (.d (.str (a ++ b))) else none
  | .lst a, .lst b => if a.length + b.length ≤ sizeLine then some (.lst (a ++ b)) else none
  | .tup a, .tup b => if a.length + b.length ≤ sizeLine then some (.d (.tup (a ++ b))) else none
  | _, _ => none
def rAddA (K : PySem.W.Frag) : V → V → Hp → VK → Prop := fun x y H Q => rI0 (fun i j => .int (i + j)) x y H Q ∨ (∃ i j, x = .str i ∧ y = .str j ∧ i.length + j.length ≤ sizeLine ∧ Q (.str (i ++ j)) H) ∨ rCat x y H Q ∨ rCatA K x y H Q
theorem RepL.append {φ F H} : ∀ {vs us : List V} {ds es : List D}, RepL φ F H vs ds → RepL φ F H us es → RepL φ F H (vs ++ us) (ds ++ es)
  | _, _, _, _, .nil, h => h
  | _, _, _, _, .cons a t, h => .cons a (t.append h)
theorem op_addA {X : Cx} (K : PySem.W.Frag) (h : X.K = K := by rfl) : OpR X (binaryOp .Add) (rAddA K) := by
  subst h
  exact op_add.or (op_add_str.or (op_cat.or op_catA))
theorem g_add (K : PySem.W.Frag) : OpG (rAddA K) addG := fun c W st σ H v1 v2 d1 d2 o Q P t1 t2 e h => by
  unfold addG at e
  split at e
  · cases e; cases t1; cases t2
    exact .inl ⟨_, _, rfl, rfl, h.d P (.int _)⟩
  · split at e
    · rename_i hl
      cases e; cases t1; cases t2
      exact .inr (.inl ⟨_, _, rfl, rfl, hl, h.d P (.str _)⟩)
    · cases e
  · split at e
    · rename_i hl
      cases e
      cases t1 with
      | lst h1 r1 =>
        cases t2 with
        | lst h2 r2 =>
          refine .inr (.inr (.inl ⟨_, _, _, _, rfl, rfl, P.nol h1 rfl, P.nol h2 rfl, by rw [r1.length, r2.length]; exact hl, ?_⟩))
          exact h.new P rfl fun p hp => ⟨_, upd_same, (r1.append r2).fut (fut_new W hp)⟩
    · cases e
  · split at e
    · rename_i hl
      cases e
      cases t1 with
      | tup h1 r1 =>
        cases t2 with
        | tup h2 r2 =>
          refine .inr (.inr (.inr ⟨_, _, _, _, rfl, rfl, SqT.of (P.nol h1 rfl), SqT.of (P.nol h2 rfl), by rw [r1.length, r2.length]; exact hl, fun e => ?_, fun n e => ?_, fun n1 n2 => ?_⟩))
          · subst e
            cases r1
            exact h.d P (.tup h2 r2)
          · subst e
            cases r2
            exact h.d P (by rw [List.append_nil]; exact .tup h1 r1)
          · exact h.newT P (r1.append r2)
    · cases e
  · cases e
/-- two numbers: C, the answer -/
def iiG (C : Int → Int → Bool) (f : Int → Int → D) : D → D → Option O
  | .int i, .int j => if C i j = true then some (.d (f i j)) else none
  | _, _ => none
theorem g_ii {C : Int → Int → Prop} {B : Int → Int → Bool} {f : Int → Int → V} {f' : Int → Int → D} (hC : ∀ i j, B i j = true → C i j) (hf : ∀ i j φ F H, Rep φ F H (f i j) (f' i j)) : OpG (rI C f) (iiG B f') := fun c W st σ H v1 v2 d1 d2 o Q P t1 t2 e h => by
  unfold iiG at e
  split at e
  · split at e
    · rename_i hb
      cases e; cases t1; cases t2
      exact ⟨_, _, rfl, rfl, hC _ _ hb, h.d P (hf _ _ _ _ _)⟩
    · cases e
  · cases e
def iiG0 (f : Int → Int → D) : D → D → Option O
  | .int i, .int j => some (.d (f i j))
  | _, _ => none
theorem g_ii0 {f : Int → Int → V} {f' : Int → Int → D} (hf : ∀ i j φ F H, Rep φ F H (f i j) (f' i j)) : OpG (rI0 f) (iiG0 f') := fun c W st σ H v1 v2 d1 d2 o Q P t1 t2 e h => by
  unfold iiG0 at e
  split at e
  · cases e; cases t1; cases t2
    exact ⟨_, _, rfl, rfl, h.d P (hf _ _ _ _ _)⟩
  · cases e
abbrev subG := iiG0 fun i j => .int (i - j)
abbrev ltG := iiG0 fun i j => .bl (decide (i < j))
abbrev leG := iiG0 fun i j => .bl (decide (i ≤ j))
abbrev gtG := iiG0 fun i j => .bl (decide (j < i))
abbrev geG := iiG0 fun i j => .bl (decide (j ≤ i))
abbrev modG := iiG (fun _ j => decide (0 < j)) fun i j => .int (i % j)
theorem g_sub : OpG (rI0 fun i j => .int (i - j)) subG := g_ii0 fun _ _ _ _ _ => .int _
theorem g_lt : OpG (rI0 fun i j => .bl (decide (i < j))) ltG := g_ii0 fun _ _ _ _ _ => .bl _
theorem g_le : OpG (rI0 fun i j => .bl (decide (i ≤ j))) leG := g_ii0 fun _ _ _ _ _ => .bl _
theorem g_gt : OpG (rI0 fun i j => .bl (decide (j < i))) gtG := g_ii0 fun _ _ _ _ _ => .bl _
theorem g_ge : OpG (rI0 fun i j => .bl (decide (j ≤ i))) geG := g_ii0 fun _ _ _ _ _ => .bl _
theorem g_mod : OpG (rI (fun _ j => 0 < j) fun i j => .int (i % j)) modG := g_ii (fun _ _ h => of_decide_eq_true h) fun _ _ _ _ _ => .int _
abbrev smallI (i : Int) : Bool := decide (-(2 ^ 64) < i) && decide (i < 2 ^ 64)
abbrev mulG := iiG (fun i j => smallI i || smallI j) fun i j => .int (i * j)
theorem g_mul : OpG (rI CMul fun i j => .int (i * j)) mulG := g_ii (fun i j h => by
  simp only [Bool.or_eq_true, Bool.and_eq_true, decide_eq_true_eq] at h
  exact h) fun _ _ _ _ _ => .int _
/-! ### in, not in -/
def flatD : D → Bool
  | .non => true
  | .bl _ => true
  | .int _ => true
  | .str _ => true
  | _ => false
def inD (neg : Bool) : D → D → Option O
  | .str x, .str z => match x.cps.toList with
    | [c] => some (.d (.bl (if neg then !decide (c ∈ z.cps.toList) else decide (c ∈ z.cps.toList))))
    | _ => none
  | d, .lst ds => match toP d, toPs ds with
    | some p, some ps => if SeqAt.shaped p && SeqAt.shaped (.list ps) then some (.d (.bl (if neg then !(ps.any fun z => PyData.eqv z p) else ps.any fun z => PyData.eqv z p))) else none
    | _, _ => none
  | .str x, .tup ds => match toPs ds with
    | some ps => if ps.all (fun p => match p with | .str _ => true | _ => false) then some (.d (.bl (if neg then !(ps.any fun z => PyData.eqv z (.str x)) else ps.any fun z => PyData.eqv z (.str x)))) else none
    | none => none
  | _, _ => none
def rInA (K : PySem.W.Frag) : V → V → Hp → VK → Prop := fun x y H Q => (∃ (c : Nat) (z : Str), x = .str ⟨#[c]⟩ ∧ y = .str z ∧ Q (.bl (decide (c ∈ z.cps.toList))) H) ∨ rInD K x y H Q ∨ rIn K false x y H Q
def rNotInA (K : PySem.W.Frag) : V → V → Hp → VK → Prop := fun x y H Q => (∃ (c : Nat) (z : Str), x = .str ⟨#[c]⟩ ∧ y = .str z ∧ Q (.bl (!decide (c ∈ z.cps.toList))) H) ∨ rNotInD K x y H Q ∨ rIn K true x y H Q
theorem op_inA {X : Cx} (K : PySem.W.Frag) (hu : X.A.units + 65 < cLine) (h : X.K = K := by rfl) : OpR X (compareOp .In) (rInA K) := by
  subst h
  exact op_in_sign.or ((op_inD hu).or op_in_seq)
theorem op_notInA {X : Cx} (K : PySem.W.Frag) (hu : X.A.units + 65 < cLine) (h : X.K = K := by rfl) : OpR X (compareOp .NotIn) (rNotInA K) := by
  subst h
  exact op_notIn_sign.or ((op_notInD hu).or op_notIn_seq)
theorem strs_of {φ F H} : ∀ {ds : List D} {vs : List V} {ps : List PyData}, RepL φ F H vs ds → toPs ds = some ps → ps.all (fun p => match p with | .str _ => true | _ => false) = true → ∃ ss : List Str, vs = ss.map V.str ∧ ps = ss.map PyData.str
  | [], _, _, h, e, _ => by cases h; cases e; exact ⟨[], rfl, rfl⟩
  | d :: ds, _, _, h, e, a => by
    cases h with
    | cons h1 h2 =>
      unfold toPs at e
      cases q1 : toP d with
      | none => rw [q1] at e; cases e
      | some p =>
        cases q2 : toPs ds with
        | none => rw [q1, q2] at e; cases e
        | some ps =>
          rw [q1, q2] at e
          cases e
          rw [List.all_cons, Bool.and_eq_true] at a
          obtain ⟨ss, e1, e2⟩ := strs_of h2 q2 a.2
          cases p with
          | str s =>
            cases d with
            | str s' =>
              cases q1
              cases h1
              exact ⟨s :: ss, by rw [e1]; rfl, by rw [e2]; rfl⟩
            | lst xs => unfold toP at q1; split at q1 <;> cases q1
            | tup xs => unfold toP at q1; split at q1 <;> cases q1
            | _ => cases q1
          | _ => cases a.1
theorem any_strs (x : Str) : ∀ ss : List Str, (ss.map V.str).any (fun y => eqV y (.str x)) = (ss.map PyData.str).any fun z => PyData.eqv z (.str x)
  | [] => rfl
  | s :: ss => by
    rw [List.map_cons, List.map_cons, List.any_cons, List.any_cons, any_strs x ss]
    congr 1
theorem g_in (K : PySem.W.Frag) : OpG (rInA K) (inD false) := fun c W st σ H v1 v2 d1 d2 o Q P t1 t2 e h => by
  unfold inD at e
  split at e
  · rename_i x z
    split at e
    · rename_i c hc
      cases e; cases t1; cases t2
      have hx : x = ⟨#[c]⟩ := by
        cases x with
        | mk a =>
          have : a.toList = [c] := hc
          rw [show a = #[c] from by rw [← Array.toArray_toList (xs := a), this]]
      subst hx
      exact .inl ⟨c, z, rfl, rfl, h.d P (.bl _)⟩
    · cases e
  · split at e
    · rename_i p ps q1 q2
      split at e
      · rename_i hs
        rw [Bool.and_eq_true] at hs
        cases e
        cases t2 with
        | lst h1 r1 => exact .inr (.inl ⟨p, ps, P.dpt t1 q1, .lst (SqL.of (P.nol h1 rfl)) (P.dps r1 q2), hs.1, hs.2, h.d P (.bl _)⟩)
      · cases e
    · cases e
  · split at e
    · rename_i ps q2
      split at e
      · rename_i hs
        cases e; cases t1
        cases t2 with
        | tup h1 r1 =>
          obtain ⟨ss, rfl, rfl⟩ := strs_of r1 q2 hs
          refine .inr (.inr ⟨_, _, rfl, .inr (SqT.of (P.nol h1 rfl)), rfl, flat_strs ss, ?_⟩)
          unfold inV
          rw [any_strs]
          exact h.d P (.bl _)
      · cases e
    · cases e
  · cases e
theorem g_notIn (K : PySem.W.Frag) : OpG (rNotInA K) (inD true) := fun c W st σ H v1 v2 d1 d2 o Q P t1 t2 e h => by
  unfold inD at e
  split at e
  · rename_i x z
    split at e
    · rename_i c hc
      cases e; cases t1; cases t2
      have hx : x = ⟨#[c]⟩ := by
        cases x with
        | mk a =>
          have : a.toList = [c] := hc
          rw [show a = #[c] from by rw [← Array.toArray_toList (xs := a), this]]
      subst hx
      exact .inl ⟨c, z, rfl, rfl, h.d P (.bl _)⟩
    · cases e
  · split at e
    · rename_i p ps q1 q2
      split at e
      · rename_i hs
        rw [Bool.and_eq_true] at hs
        cases e
        cases t2 with
        | lst h1 r1 => exact .inr (.inl ⟨p, ps, P.dpt t1 q1, .lst (SqL.of (P.nol h1 rfl)) (P.dps r1 q2), hs.1, hs.2, h.d P (.bl _)⟩)
      · cases e
    · cases e
  · split at e
    · rename_i ps q2
      split at e
      · rename_i hs
        cases e; cases t1
        cases t2 with
        | tup h1 r1 =>
          obtain ⟨ss, rfl, rfl⟩ := strs_of r1 q2 hs
          refine .inr (.inr ⟨_, _, rfl, .inr (SqT.of (P.nol h1 rfl)), rfl, flat_strs ss, ?_⟩)
          unfold inV
          rw [any_strs]
          exact h.d P (.bl _)
      · cases e
    · cases e
  · cases e
end Q
namespace Q
open PySem L2
section
variable {X : Cx} {e a b : Expr} {es : List Expr} {f f1 f2 : Ex} {g g1 g2 : Ox} {ga : Ax} {pos p : Pos} {s : Stmt} {rest sts : List Stmt} {sf sg : Sx} {tt : Tx}
/-! ### blocks -/
def sNx : Sx := fun _ K st => K.nx st
def sSeq (f g : Sx) : Sx := fun E K st => f E { K with nx := g E K } st
theorem pxb_nil : PXB X [] sNx := fun c l => pssOf pss_nil fun D σ H ⟨W, st, H1, K, hH, P, ek, q⟩ => by
  subst hH
  exact ek.1 _ _ _ _ q P (.refl _ _)
theorem pxb_cons (h1 : PXS X s sf) (h2 : PXB X rest sg) : PXB X (s :: rest) (sSeq sf sg) := fun c l => pssOf (pss_cons (h1 c l) (h2 c l)) fun D σ H ⟨W, st, H1, K, hH, P, ek, q⟩ =>
  ⟨W, st, H1, { K with nx := sg c.E K }, hH, P, ⟨fun st' W' σ' H' q' P' a => ⟨W', st', H', K, rfl, P', ek.aft a, q'⟩, ek.2.1, ek.2.2.1, ek.2.2.2⟩, q⟩
theorem pxb_one (h1 : PXS X s sf) : PXB X [s] sf := fun c l => pss_one (h1 c l)
def sNever : Sx := fun _ _ _ => False
theorem pxs_never : PXS X s sNever := fun c l => psOf ps_never fun D σ H ⟨W, st, H1, K, hH, P, ek, q⟩ => q.elim
theorem pxs_pass : PXS X (.Pass pos) sNx := fun c l => psOf ps_pass fun D σ H ⟨W, st, H1, K, hH, P, ek, q⟩ => by
  subst hH
  exact ek.1 _ _ _ _ q P (.refl _ _)
def sCt : Sx := fun _ K st => K.ct st
def sBk : Sx := fun _ K st => K.bk st
theorem pxs_continue : PXS X (.Continue pos) sCt := fun c l => psOf ps_continue fun D σ H ⟨W, st, H1, K, hH, P, ek, q⟩ => by
  subst hH
  exact ek.2.2.2 _ _ _ _ q P (.refl _ _)
theorem pxs_break : PXS X (.Break pos) sBk := fun c l => psOf ps_break fun D σ H ⟨W, st, H1, K, hH, P, ek, q⟩ => by
  subst hH
  exact ek.2.2.1 _ _ _ _ q P (.refl _ _)
/-! ### return -/
def sRet (g : Ox) : Sx := fun E K st => g E st K.rt
theorem pxs_ret (h : PO X e g) : PXS X (.Return (some e) pos) (sRet g) := fun c l => psOf (ps_ret (h c l)) fun D σ H ⟨W, st, H1, K, hH, P, ek, q⟩ =>
  ⟨W, st, H1, _, hH, P, q, fun o st' v W' H2 q0 s P' ov => ek.2.1 _ _ _ _ _ _ q0 P' (P.aft s) ov⟩
def sRetN : Sx := fun _ K st => K.rt (.d .non) st
theorem pxs_retN : PXS X (.Return none pos) sRetN := fun c l => psOf ps_retN fun D σ H ⟨W, st, H1, K, hH, P, ek, q⟩ => by
  subst hH
  exact ek.2.1 _ _ _ _ _ _ q P (.refl _ _) (.non : Rp W H1 .non .non)
/-- a slot's thing, handed on -/
def xMv (i : Nat) : Ox := fun _ st Q => match st.ρ[i]? with
  | some .un => False
  | some (.d x) => Q (.d x) st
  | some o => Q o { st with ρ := st.ρ.set i .un }
  | none => False
theorem Pre.drop {c : C0} {W : Wd} {st : Ps} {σ : L2.St} {H : Hp} (P : Pre c W st σ H) (i : Nat) : Pre c W { st with ρ := st.ρ.set i .un } σ H := by
  have low : ∀ {j : Nat} {a : Addr}, slotOwns (st.ρ.set i .un) σ j a → slotOwns st.ρ σ j a := fun {j a} z => by
    rcases owns_setO z with ⟨_, z, _⟩ | ⟨_, z⟩
    · cases z
    · exact z
  refine ⟨P.hrw, P.step, P.new, P.base, by simp only [List.length_set]; exact P.slen, fun j o h => ?_, fun j a z => P.sown j a (low z), fun j k a z y => P.sapart j k a (low z) (low y), fun a h => ?_, P.hvw, P.own0⟩
  · by_cases q : j = i
    · subst q
      rw [List.getElem?_set, if_pos rfl] at h
      split at h
      · cases h
        exact trivial
      · cases h
    · rw [List.getElem?_set_ne (Ne.symm q)] at h
      exact P.slot j o h
  · obtain ⟨h1, h2, h3, h4⟩ := P.rsv a h
    exact ⟨h1, h2, h3, fun j z => h4 j (low z)⟩
theorem OV.of_own {c : C0} {W : Wd} {st : Ps} {σ : L2.St} {H : Hp} {a : Addr} {o : O} (ho : o.owned = true) (h : OwnAt W H a o ∧ ¬ W.F a ∧ ¬ W.own a ∧ c.H0 a = none ∧ (∀ i, ¬ slotOwns st.ρ σ i a) ∧ ¬ c.R a) : OV c W st σ H (.ref a) o := by
  cases o with
  | un => cases ho
  | d x => cases ho
  | lst _ => exact ⟨a, rfl, h⟩
  | dK _ => exact ⟨a, rfl, h⟩
  | dT _ => exact ⟨a, rfl, h⟩
  | ins _ _ _ => exact ⟨a, rfl, h⟩
theorem po_mv {i : Nat} (h : PE X e (tVar i)) : PO X e (xMv i) := fun c l => peOf h fun σ H Q ⟨W, st, H1, Q0, hH, P, q, k⟩ => by
  subst hH
  unfold xMv at q
  cases z : st.ρ[i]? with
  | none => rw [z] at q; exact q.elim
  | some o =>
    rw [z] at q
    have so := P.slot i o z
    have go : o.owned = true → Q0 o { st with ρ := st.ρ.set i .un } → tVar i σ (lockH W.L H1) Q := fun ho q => by
      obtain ⟨a, e1, e2⟩ := SlotOk.own ho so
      have se : slotOwns st.ρ σ i a := ⟨o, z, ho, join_ref e1⟩
      obtain ⟨k1, k2, k3⟩ := P.sown i a se
      refine ⟨_, join_ref e1, k _ _ _ _ _ q (.refl _ _ _) (P.drop i) (OV.of_own ho ⟨e2, k1, k2, k3, fun j y => ?_, fun hR => (P.rsv a hR).2.2.2 i se⟩)⟩
      rcases owns_setO y with ⟨_, y, _⟩ | ⟨ne, y⟩
      · cases y
      · exact ne (P.sapart j i a y se)
    cases o with
    | un => exact q.elim
    | d x =>
      obtain ⟨v', e1, e2⟩ := so
      exact ⟨v', join_ref e1, k _ _ _ _ _ q (.refl _ _ _) P e2⟩
    | lst _ => exact go rfl q
    | dK _ => exact go rfl q
    | dT _ => exact go rfl q
    | ins _ _ _ => exact go rfl q
/-! ### expressions as statements; if -/
def sEx (g : Ox) : Sx := fun E K st => g E st fun _ st' => K.nx st'
theorem pxs_ex (h : PO X e g) (hs : swapsWith e none pos.line X.env = pure false := by rfl) : PXS X (.Expr e pos) (sEx g) := fun c l => psOf (ps_expr (h c l) hs) fun D σ H ⟨W, st, H1, K, hH, P, ek, q⟩ =>
  ⟨W, st, H1, _, hH, P, q, fun o st' v W' H2 q0 s P' ov => ek.1 _ _ _ _ q0 P' (P.aft s)⟩
def sIf (t : Tx) (f g : Sx) : Sx := fun E K st => t E st fun b st' => if b = true then f E K st' else g E K st'
theorem pxs_if (h : PXT X a tt) (h1 : PXB X sts sf) (h2 : PXB X rest sg) : PXS X (.If a sts rest pos) (sIf tt sf sg) := fun c l => psOf (ps_if (h c l) (h1 c l) (h2 c l)) fun D σ H ⟨W, st, H1, K, hH, P, ek, q⟩ =>
  ⟨W, st, H1, _, hH, P, q, fun b st' W' H2 q0 s P' => by
    cases b with
    | true => exact iteT ⟨W', st', H2, K, rfl, P', ek.aft (P.aft s), q0⟩
    | false => exact iteF ⟨W', st', H2, K, rfl, P', ek.aft (P.aft s), q0⟩⟩
/-! ### name = value -/
def sSet (i : Nat) (g : Ox) : Sx := fun E K st => g E st fun o st' => K.nx { st' with ρ := st'.ρ.set i (.d o.toD) }
def sSetO (i : Nat) (g : Ox) : Sx := fun E K st => g E st fun o st' => K.nx { st' with ρ := st'.ρ.set i o }
theorem OV.set {c : C0} {W : Wd} {st : Ps} {σ : L2.St} {H : Hp} {v : V} {o : O} (P : Pre c W st σ H) (i : Nat) (h : OV c W st σ H v o) : Pre c W { st with ρ := st.ρ.set i o } (σ.set i (some v)) H := by
  cases o with
  | un => exact h.elim
  | d x => exact P.set i h
  | lst _ => obtain ⟨a, rfl, h2, h3, h4, h5, h6, h7⟩ := h; exact P.setO i h2 h3 h4 h5 h6 h7
  | dK _ => obtain ⟨a, rfl, h2, h3, h4, h5, h6, h7⟩ := h; exact P.setO i h2 h3 h4 h5 h6 h7
  | dT _ => obtain ⟨a, rfl, h2, h3, h4, h5, h6, h7⟩ := h; exact P.setO i h2 h3 h4 h5 h6 h7
  | ins _ _ _ => obtain ⟨a, rfl, h2, h3, h4, h5, h6, h7⟩ := h; exact P.setO i h2 h3 h4 h5 h6 h7
theorem pxs_set {i : Nat} (h : ∀ {t : TE}, PE X e t → PS X s (tAsg t (gName i))) (hg : PO X e g) : PXS X s (sSet i g) := fun c l => psOf (h (hg c l)) fun D σ H ⟨W, st, H1, K, hH, P, ek, q⟩ =>
  ⟨W, st, H1, _, hH, P, q, fun o st' v W' H2 q0 s P' ov => by
    obtain ⟨W3, s3, P3, r, eL⟩ := OV.plain P' ov
    rw [← eL]
    exact ek.1 _ _ _ _ q0 (P3.set i r) (P.aft (s.trans s3))⟩
theorem pxs_setO {i : Nat} (h : ∀ {t : TE}, PE X e t → PS X s (tAsg t (gName i))) (hg : PO X e g) : PXS X s (sSetO i g) := fun c l => psOf (h (hg c l)) fun D σ H ⟨W, st, H1, K, hH, P, ek, q⟩ =>
  ⟨W, st, H1, _, hH, P, q, fun o st' v W' H2 q0 s P' ov => ek.1 _ _ _ _ q0 (OV.set P' i ov) (P.aft s)⟩
/-! ### several values, each for a slot -/
abbrev AOx := EK → Ps → (List O → Ps → Prop) → Prop
inductive OVs (c : C0) (W : Wd) (st : Ps) (σ : L2.St) (H : Hp) : List V → List O → Prop
  | nil : OVs c W st σ H [] []
  | cons {v : V} {o : O} {vs : List V} {os : List O} : OV c W st σ H v o → (o.owned = true → ∀ (i : Nat) (u : V) (o' : O), vs[i]? = some u → os[i]? = some o' → o'.owned = true → u ≠ v) → OVs c W st σ H vs os → OVs c W st σ H (v :: vs) (o :: os)
def tAO (c : C0) (f : AOx) : TA := fun σ H Q => ∃ W st H1 Q0, H = lockH W.L H1 ∧ Pre c W st σ H1 ∧ f c.E st Q0 ∧
  ∀ os st' vs W' H2, Q0 os st' → Step c.rw W H1 W' H2 → Pre c W' st' σ H2 → OVs c W' st' σ H2 vs os → Q vs (lockH W'.L H2)
def PAO (X : Cx) (es : List Expr) (f : AOx) : Prop := ∀ c, Lk X c → PA X es (tAO c f)
def oNil : AOx := fun _ st Q => Q [] st
def oCons (f : Ox) (g : AOx) : AOx := fun E st Q => f E st fun o st1 => g E st1 fun os st2 => Q (o :: os) st2
def C0.rs (c : C0) (a : Addr) : C0 := { c with R := fun b => c.R b ∨ b = a }
theorem Pre.res {c : C0} {W : Wd} {st : Ps} {σ : L2.St} {H : Hp} (P : Pre c W st σ H) {a : Addr} (h : ¬ W.F a ∧ ¬ W.own a ∧ (∃ o, H a = some o) ∧ ∀ i, ¬ slotOwns st.ρ σ i a) : Pre (c.rs a) W st σ H :=
  ⟨P.hrw, P.step, P.new, P.base, P.slen, P.slot, P.sown, P.sapart, fun b hb => hb.elim (P.rsv b) (fun e => by rw [e]; exact h), P.hvw, P.own0⟩
theorem Pre.unres {c : C0} {W : Wd} {st : Ps} {σ : L2.St} {H : Hp} {a : Addr} (P : Pre (c.rs a) W st σ H) : Pre c W st σ H := ⟨P.hrw, P.step, P.new, P.base, P.slen, P.slot, P.sown, P.sapart, fun b hb => P.rsv b (.inl hb), P.hvw, P.own0⟩
theorem Lk.res {c : C0} {a : Addr} (l : Lk X c) : Lk X (c.rs a) := Takes.imp l fun cls d σ H ⟨W, st, H1, C, fs, h1, P, h⟩ => ⟨W, st, H1, C, fs, h1, P.unres, h⟩
theorem OV.own {c : C0} {W : Wd} {st : Ps} {σ : L2.St} {H : Hp} {v : V} {o : O} (ho : o.owned = true) (h : OV c W st σ H v o) : ∃ a, v = .ref a ∧ OwnAt W H a o ∧ ¬ W.F a ∧ ¬ W.own a ∧ c.H0 a = none ∧ (∀ i, ¬ slotOwns st.ρ σ i a) ∧ ¬ c.R a := by
  cases o with
  | un => cases ho
  | d x => cases ho
  | lst _ => exact h
  | dK _ => exact h
  | dT _ => exact h
  | ins _ _ _ => exact h
theorem OVs.unres {c : C0} {W : Wd} {st : Ps} {σ : L2.St} {H : Hp} {a : Addr} : ∀ {vs : List V} {os : List O}, OVs (c.rs a) W st σ H vs os → OVs c W st σ H vs os ∧ ∀ (i : Nat) (u : V) (o' : O), vs[i]? = some u → os[i]? = some o' → o'.owned = true → u ≠ .ref a
  | _, _, .nil => ⟨.nil, fun i u o' h => by simp at h⟩
  | _, _, .cons (v := v) (o := o) h1 h2 h3 => by
    obtain ⟨q1, q2⟩ := h3.unres
    have low : OV c W st σ H v o ∧ (o.owned = true → v ≠ .ref a) := by
      cases ho : o.owned with
      | true =>
        obtain ⟨b, rfl, k1, k2, k3, k4, k5, k6⟩ := OV.own ho h1
        exact ⟨OV.of_own ho ⟨k1, k2, k3, k4, k5, fun z => k6 (.inl z)⟩, fun _ z => k6 (.inr (by cases z; rfl))⟩
      | false =>
        refine ⟨?_, fun z => by cases z⟩
        cases o with
        | un => exact h1
        | d x => exact h1
        | lst _ => cases ho
        | dK _ => cases ho
        | dT _ => cases ho
        | ins _ _ _ => cases ho
    refine ⟨.cons low.1 h2 q1, fun i u o' e1 e2 e3 => ?_⟩
    cases i with
    | zero =>
      cases e1
      cases e2
      exact low.2 e3
    | succ i => exact q2 i u o' (by simpa using e1) (by simpa using e2) e3
theorem pao_nil : PAO X [] oNil := fun c l => paOf pa_nil fun σ H Q ⟨W, st, H1, Q0, hH, P, q, k⟩ => by
  subst hH
  exact k _ _ _ _ _ q (.refl _ _ _) P .nil
theorem PA.orr {es : List Expr} {α : Type} {t : α → TA} (h : ∀ x, PA X es (t x)) : PA X es (fun σ H Q => ∃ x, t x σ H Q) := ⟨fun pos pins s σ H Q I ⟨x, q⟩ => (h x).run pos pins s σ H Q I q⟩
theorem pao_cons {ga : AOx} (h : PO X e g) (hr : PAO X es ga) (hs : starEach (e :: es) X.env = (false, eval e X.env) :: starEach es X.env := by rfl) : PAO X (e :: es) (oCons g ga) := fun c l => by
  refine paOf (pa_cons (h c l) (PA.orr (t := fun x : Option Addr => match x with | none => tAO c ga | some a => tAO (c.rs a) ga) fun x => ?_) hs) ?_
  · cases x with
    | none => exact hr c l
    | some a => exact hr _ (Lk.res l)
  · rintro σ H Q ⟨W, st, H1, Q0, hH, P, q, k⟩
    refine ⟨W, st, H1, _, hH, P, q, fun o st1 v W1 H2 q1 s1 P1 ov => ?_⟩
    cases ho : o.owned with
    | true =>
      obtain ⟨a, rfl, k1, k2, k3, k4, k5, k6⟩ := OV.own ho ov
      obtain ⟨u, hu, _⟩ := k1.there
      refine ⟨some a, W1, st1, H2, _, rfl, P1.res ⟨k2, k3, ⟨u, hu⟩, k5⟩, q1, fun os st2 vs W2 H3 q2 s2 P2 ovs => ?_⟩
      obtain ⟨z1, z2⟩ := ovs.unres
      obtain ⟨y1, y2, y3, y4⟩ := P2.rsv a (.inr rfl)
      have e : H3 a = H2 a := by rw [hu]; exact s2.keep a u hu fun _ => k3
      exact k _ _ _ _ _ q2 (s1.trans s2) P2.unres (.cons (OV.of_own ho ⟨k1.fut (P1.fut s2) e, y1, y2, k4, y4, k6⟩) (fun _ => z2) z1)
    | false =>
      refine ⟨none, W1, st1, H2, _, rfl, P1, q1, fun os st2 vs W2 H3 q2 s2 P2 ovs => ?_⟩
      refine k _ _ _ _ _ q2 (s1.trans s2) P2 (.cons ?_ (fun z => by rw [ho] at z; cases z) ovs)
      cases o with
      | un => exact ov
      | d x => exact Rep.fut (P1.fut s2) ov
      | lst _ => cases ho
      | dK _ => cases ho
      | dT _ => cases ho
      | ins _ _ _ => cases ho
theorem OV.later {c : C0} {W : Wd} {st : Ps} {σ : L2.St} {H : Hp} {v u : V} {o o' : O} (i : Nat) (h : OV c W st σ H v o) (n : o.owned = true → o'.owned = true → u ≠ v) : OV c W { st with ρ := st.ρ.set i o' } (σ.set i (some u)) H v o := by
  cases ho : o.owned with
  | true =>
    obtain ⟨a, rfl, k1, k2, k3, k4, k5, k6⟩ := OV.own ho h
    refine OV.of_own ho ⟨k1, k2, k3, k4, fun j z => ?_, k6⟩
    rcases owns_set z with ⟨_, z, y⟩ | ⟨_, z⟩
    · exact n ho z (Option.some.inj y)
    · exact k5 j z
  | false =>
    cases o with
    | un => exact h
    | d x => exact h
    | lst _ => cases ho
    | dK _ => cases ho
    | dT _ => cases ho
    | ins _ _ _ => cases ho
def sPar2 (i j : Nat) (g : AOx) : Sx := fun E K st => g E st fun os st1 => match os with
  | [o1, o2] => K.nx { st1 with ρ := (st1.ρ.set i o1).set j o2 }
  | _ => False
theorem pxs_par2 {i j : Nat} {ga : AOx} (h : ∀ {t : TA}, PA X es t → PS X s (tPar i j t)) (ha : PAO X es ga) : PXS X s (sPar2 i j ga) := fun c l => psOf (h (ha c l)) fun D σ H ⟨W, st, H1, K, hH, P, ek, q⟩ =>
  ⟨W, st, H1, _, hH, P, q, fun os st1 vs W1 H2 q1 s1 P1 ovs => by
    split at q1
    · cases ovs with
      | cons h1 n1 t =>
        cases t with
        | cons h2 n2 t =>
          cases t
          rename_i v1 v2
          exact ⟨v1, v2, rfl, ek.1 _ _ _ _ q1 (OV.set (OV.set P1 i h1) j (OV.later i h2 fun a b => (n1 b 0 _ _ rfl rfl a).symm)) (P.aft s1)⟩
    · exact q1.elim⟩
def sPar3 (i j m : Nat) (g : AOx) : Sx := fun E K st => g E st fun os st1 => match os with
  | [o1, o2, o3] => K.nx { st1 with ρ := ((st1.ρ.set i o1).set j o2).set m o3 }
  | _ => False
theorem pxs_par3 {i j m : Nat} {ga : AOx} (h : ∀ {t : TA}, PA X es t → PS X s (tPar3 i j m t)) (ha : PAO X es ga) : PXS X s (sPar3 i j m ga) := fun c l => psOf (h (ha c l)) fun D σ H ⟨W, st, H1, K, hH, P, ek, q⟩ =>
  ⟨W, st, H1, _, hH, P, q, fun os st1 vs W1 H2 q1 s1 P1 ovs => by
    split at q1
    · cases ovs with
      | cons h1 n1 t =>
        cases t with
        | cons h2 n2 t =>
          cases t with
          | cons h3 n3 t =>
            cases t
            rename_i v1 v2 v3
            refine ⟨v1, v2, v3, rfl, ek.1 _ _ _ _ q1 (OV.set (OV.set (OV.set P1 i h1) j (OV.later i h2 fun a b => (n1 b 0 _ _ rfl rfl a).symm)) m ?_) (P.aft s1)⟩
            exact OV.later j (OV.later i h3 fun a b => (n1 b 1 _ _ rfl rfl a).symm) fun a b => (n2 b 0 _ _ rfl rfl a).symm
    · exact q1.elim⟩
end
end Q
namespace Q
open PySem L2 PySem.Spec PyProof.Rows
/-! ### what a def is worth, over plain data -/
abbrev EF := Addr → List (Str × D) → List Cell → Prop
abbrev MF := List D → EF → List Cell → (O → List Cell → Prop) → Prop
def RO (W : Wd) (H0 H : Hp) (v : V) (o : O) : Prop :=
  match o with
  | .un => False
  | .d x => Rp W H v x
  | o => ∃ a, v = .ref a ∧ OwnAt W H a o ∧ ¬ W.F a ∧ ¬ W.own a ∧ H0 a = none
def spM (rw : Bool) (np : Nat) (m : MF) : Sp := fun vs H Q E => ∃ W S H1 ds Q0 E0, H = lockH W.L H1 ∧ Base rw W S H1 ∧ RepL W.φ W.F H1 vs ds ∧ ds.length = np ∧ m ds E0 S Q0 ∧
  (∀ o S' v W' H2, Q0 o S' → Step rw W H1 W' H2 → (∀ a, W'.F a → W.F a ∨ H1 a = none) → Base rw W' S' H2 → W'.L = W.L → RO W' H1 H2 v o → Q v (lockH W.L H2)) ∧
  (∀ C fs S' od W' H2, E0 C fs S' → Step rw W H1 W' H2 → (∀ a, W'.F a → W.F a ∨ H1 a = none) → Base rw W' S' H2 → W'.L = W.L → ExcAt W' H2 od fs → E (.ref C) od (lockH W.L H2))
def st0 (rw : Bool) (n : Nat) (ds : List D) (S : List Cell) : Ps := ⟨ds.map O.d ++ List.replicate (n - ds.length) .un, S, rw, false⟩
def mk (rw : Bool) (n : Nat) (b : Sx) : MF := fun ds E0 S Q0 => b (fun C fs st => E0 C fs st.S) ⟨fun st => Q0 (.d .non) st.S, fun o st => Q0 o st.S, fun _ => False, fun _ => False⟩ (st0 rw n ds S)
theorem RepL.get {φ F H} : ∀ {vs : List V} {ds : List D} {i : Nat} {d : D}, RepL φ F H vs ds → ds[i]? = some d → ∃ v, vs[i]? = some v ∧ Rep φ F H v d
  | _, _, i, d, .nil, e => by simp at e
  | _, _, 0, d, .cons h _, e => by
    cases e
    exact ⟨_, rfl, h⟩
  | _, _, i + 1, d, .cons _ t, e => by
    obtain ⟨v, h1, h2⟩ := t.get (i := i) (by simpa using e)
    exact ⟨v, by simpa using h1, h2⟩
theorem RO.of_OV {c : C0} {W : Wd} {st : Ps} {σ : L2.St} {H : Hp} {v : V} {o : O} (h : OV c W st σ H v o) : RO W c.H0 H v o := by
  cases o with
  | un => exact h
  | d x => exact h
  | lst _ => obtain ⟨a, h1, h2, h3, h4, h5, _⟩ := h; exact ⟨a, h1, h2, h3, h4, h5⟩
  | dK _ => obtain ⟨a, h1, h2, h3, h4, h5, _⟩ := h; exact ⟨a, h1, h2, h3, h4, h5⟩
  | dT _ => obtain ⟨a, h1, h2, h3, h4, h5, _⟩ := h; exact ⟨a, h1, h2, h3, h4, h5⟩
  | ins _ _ _ => obtain ⟨a, h1, h2, h3, h4, h5, _⟩ := h; exact ⟨a, h1, h2, h3, h4, h5⟩
theorem pre0 {W : Wd} {S : List Cell} {H : Hp} {ds : List D} {vs : List V} {rw : Bool} {E : EK} {N : List Str} (B : Base rw W S H) (r : RepL W.φ W.F H vs ds) (hl : ds.length ≤ N.length) : Pre ⟨W, H, rw, E, fun _ => False⟩ W (st0 rw N.length ds S) (L2.start N vs) H := by
  have hv := r.length
  have no : ∀ i a, ¬ slotOwns (st0 rw N.length ds S).ρ (L2.start N vs) i a := fun i a ⟨o, h1, h2, _⟩ => by
    have h1' : (ds.map O.d ++ List.replicate (N.length - ds.length) O.un)[i]? = some o := h1
    rw [List.getElem?_append] at h1'
    split at h1'
    · rw [List.getElem?_map] at h1'
      cases e : ds[i]? with
      | none => rw [e] at h1'; cases h1'
      | some d => rw [e] at h1'; cases h1'; cases h2
    · have := List.mem_of_getElem? h1'
      rw [(List.mem_replicate.mp this).2] at h2
      cases h2
  refine ⟨rfl, .refl _ _ _, fun a h => .inl h, B, ?_, fun i o h => ?_, fun i a z => absurd z (no i a), fun i j a z => absurd z (no i a), fun a h => h.elim, fun h => (by cases h), fun a h => B.own_there h⟩
  · show (ds.map O.d ++ List.replicate (N.length - ds.length) O.un).length = (vs.map some ++ List.replicate (N.length - vs.length) none).length
    simp only [List.length_append, List.length_map, List.length_replicate]
    omega
  · have h' : (ds.map O.d ++ List.replicate (N.length - ds.length) O.un)[i]? = some o := h
    rw [List.getElem?_append] at h'
    split at h'
    · rename_i hi
      rw [List.length_map] at hi
      rw [List.getElem?_map] at h'
      cases e : ds[i]? with
      | none => rw [e] at h'; cases h'
      | some d =>
        rw [e] at h'
        cases h'
        obtain ⟨v, e1, e2⟩ := r.get e
        refine ⟨v, ?_, e2⟩
        show (vs.map some ++ List.replicate (N.length - vs.length) none)[i]?.join = some v
        rw [List.getElem?_append_left (by rw [List.length_map]; omega), List.getElem?_map, e1]
        rfl
    · have := List.mem_of_getElem? h'
      rw [(List.mem_replicate.mp this).2]
      exact trivial
/-! ### behind a body the locks are taken off -/
inductive Unl (X : Cx) : Hp → Hp → Prop
  | refl (H : Hp) : Unl X H H
  | step {H H' : Hp} {d : Addr} {od : Obj} {u : HO} : H d = some (.frz od u) → (∀ o' u', X.H_0 d ≠ some (.frz o' u')) → Unl X (upd H d u) H' → Unl X H H'
theorem Unl.inv {X : Cx} {pins : List (Addr × Obj)} {σ : L2.St} {s : Shared} {H H' : Hp} (h : Unl X H H') : L2.Inv X pins σ H s → L2.Inv X pins σ H' s := by
  induction h with
  | refl H => exact fun I => I
  | step a b _ ih => exact fun I => ih (I.unlock a b)
theorem Unl.none {X : Cx} {H H' : Hp} (h : Unl X H H') {a : Addr} : H a = none → H' a = none := by
  induction h with
  | refl H => exact fun e => e
  | step x b _ ih => exact fun e => ih (by rw [upd_ne (fun z => by rw [z, x] at e; cases e)]; exact e)
def enUnl (X : Cx) (D : Ends) : Ends := ⟨fun σ H => ∃ H', Unl X H H' ∧ D.nx σ H', fun v H => ∃ H', Unl X H H' ∧ D.rt v H', fun σ H => ∃ H', Unl X H H' ∧ D.bk σ H', fun σ H => ∃ H', Unl X H H' ∧ D.ct σ H'⟩
theorem pssUnl {X : Cx} {sts : List Stmt} {t : TS} (h : PSs X sts t) : PSs X sts (fun D => t (enUnl X D)) := ⟨fun pins s σ H D I q => by
  refine thn (h.run pins s σ H _ I q) fun fl s1 z => ?_
  cases fl with
  | next => obtain ⟨σ1, H1, J, H2, un, q1⟩ := z; exact ⟨σ1, H2, un.inv J, q1⟩
  | brk => obtain ⟨σ1, H1, J, H2, un, q1⟩ := z; exact ⟨σ1, H2, un.inv J, q1⟩
  | cont => obtain ⟨σ1, H1, J, H2, un, q1⟩ := z; exact ⟨σ1, H2, un.inv J, q1⟩
  | ret u => obtain ⟨v, σ1, H1, J, rv, H2, un, q1⟩ := z; exact ⟨v, σ1, H2, un.inv J, rv, q1⟩⟩
theorem takesUnl {X : Cx} {Ew : WX} (tk : Takes X Ew) : Takes X (fun cls d σ H => ∃ H', Unl X H H' ∧ Ew cls d σ H') := fun u s' x => by
  obtain ⟨a, B, sI, pins, σ, H, cls, d, e, I, nb, up, sky, na, os, ag, H', un, q⟩ := x
  exact tk u s' ⟨a, B, sI, pins, σ, H', cls, d, e, un.inv I, nb, up, sky, un.none na, os, ag, q⟩
theorem lookup_nodup {L : List (Addr × Obj)} {d : Addr} (h : d ∉ L.map (·.1)) : L.lookup d = none := by
  induction L with
  | nil => rfl
  | cons p L ih =>
    obtain ⟨a, o⟩ := p
    rw [List.map_cons, List.mem_cons, not_or] at h
    rw [List.lookup_cons]
    have : (d == a) = false := beq_eq_false_iff_ne.mpr h.1
    rw [this]
    exact ih h.2
theorem unl_go {X : Cx} {H : Hp} {L0 : List (Addr × Obj)} : ∀ (more : List (Addr × Obj)), ((more ++ L0).map (·.1)).Nodup → (∀ p ∈ more, (∃ u, H p.1 = some u) ∧ ∀ o' u', X.H_0 p.1 ≠ some (.frz o' u')) → Unl X (lockH (more ++ L0) H) (lockH L0 H)
  | [], _, _ => .refl _
  | (d, o) :: more, nd, h => by
    obtain ⟨⟨u, hu⟩, hn⟩ := h (d, o) List.mem_cons_self
    rw [List.cons_append, List.map_cons, List.nodup_cons] at nd
    have hl := lookup_nodup nd.1
    have e1 : ((d, o) :: (more ++ L0)).lookup d = some o := by rw [List.lookup_cons]; simp
    refine .step (d := d) (od := o) (u := u) ?_ hn ?_
    · show lockH ((d, o) :: (more ++ L0)) H d = _
      simp only [lockH, e1, hu]
      rfl
    · have e2 : upd (lockH ((d, o) :: more ++ L0) H) d u = lockH (more ++ L0) H := by
        funext b
        by_cases e : b = d
        · subst e
          rw [upd_same, lock_at hl, hu]
        · rw [upd_ne e]
          have : ((d, o) :: (more ++ L0)).lookup b = (more ++ L0).lookup b := by
            rw [List.lookup_cons]
            have : (b == d) = false := beq_eq_false_iff_ne.mpr e
            rw [this]
          show lockH ((d, o) :: (more ++ L0)) H b = _
          simp only [lockH, this]
      rw [e2]
      exact unl_go more nd.2 fun p hp => h p (List.mem_cons_of_mem _ hp)
theorem lookup_of_mem {L : List (Addr × Obj)} {p : Addr × Obj} (nd : (L.map (·.1)).Nodup) (h : p ∈ L) : L.lookup p.1 = some p.2 := by
  induction L with
  | nil => cases h
  | cons q L ih =>
    obtain ⟨a, o⟩ := q
    rw [List.map_cons, List.nodup_cons] at nd
    rw [List.lookup_cons]
    rcases List.mem_cons.mp h with e | h
    · subst e
      simp
    · have : p.1 ≠ a := fun z => nd.1 (by rw [← z]; exact List.mem_map.mpr ⟨p, h, rfl⟩)
      rw [beq_eq_false_iff_ne.mpr this]
      exact ih nd.2 h
/-- the world with the locks of the beginning -/
def Wd.relock (W' W : Wd) : Wd := { W' with L := W.L }
theorem Pre.exit {c : C0} {W : Wd} {st : Ps} {σ : L2.St} {H : Hp} {S0 : List Cell} {X : Cx} (P : Pre c W st σ H) (B : Base c.rw c.W0 S0 c.H0) (hX : ∀ d o' u', X.H_0 d = some (.frz o' u') → lockH c.W0.L c.H0 d = some (.frz o' u')) :
    Unl X (lockH W.L H) (lockH c.W0.L H) ∧ Step c.rw c.W0 c.H0 (W.relock c.W0) H ∧ Base c.rw (W.relock c.W0) st.S H := by
  obtain ⟨more, eL⟩ := P.step.locks
  have nd := P.base.lN
  refine ⟨?_, ⟨P.step.cells, P.step.sub, P.step.keep, P.step.tups, P.step.dom, P.step.ownNew, ⟨[], rfl⟩, P.step.ownOld⟩, ⟨P.base.fdom, P.base.len, P.base.cell, P.base.apart, P.base.ownF, B.lN, fun a o h => ?_⟩⟩
  · rw [eL] at nd ⊢
    refine unl_go more nd fun p hp => ?_
    have hm : p ∈ W.L := by rw [eL]; exact List.mem_append_left _ hp
    obtain ⟨h1, u, h2, h3⟩ := P.base.lF p.1 p.2 (lookup_of_mem (by rw [eL]; exact nd) hm)
    refine ⟨⟨u, h2⟩, fun o' u' e => ?_⟩
    rw [List.map_append] at nd
    have hl : c.W0.L.lookup p.1 = none := lookup_nodup fun z => (List.nodup_append.mp nd).2.2 _ (List.mem_map_of_mem hp) _ z rfl
    have e := hX _ _ _ e
    rw [lock_at hl] at e
    have key : H p.1 = some (.frz o' u') ∨ c.H0 p.1 = none := by
      rcases h1 with h1 | ⟨hr, h1⟩
      · rcases P.new p.1 h1 with f | n
        · exact .inl (P.step.keep p.1 _ e (fun hr ho => B.ownF hr p.1 ho f))
        · exact .inr n
      · exact .inl (P.step.keep p.1 _ e (fun z => by rw [hr] at z; cases z))
    rcases key with this | n
    · rw [h2] at this
      cases this
      cases h3
    · rw [n] at e
      cases e
  · obtain ⟨h1, u, h2, h3⟩ := B.lF a o h
    rcases h1 with h1 | ⟨hr, h1⟩
    · exact ⟨.inl (P.step.sub a h1), u, P.step.keep a u h2 (fun hr ho => B.ownF hr a ho h1), h3⟩
    · exact ⟨(P.step.ownOld a h1).elim (fun y => .inr ⟨hr, y⟩) (fun y => by rw [hr] at y; cases y), u, P.step.keep a u h2 (fun z => by rw [hr] at z; cases z), h3⟩
section
variable {P : Program} {w : World} {K : PySem.W.Frag} {mg : Str → Option Value} {base : Heap}
/-- a def's body, as a function of plain data -/
theorem fnM {x qual : Str} {st : Stmt} {f : Addr} {fd : FuncData} {N ps : List Str} {k : Nat} {b : Sx} {rw : Bool} (F : Fun K x qual st f fd) (S : FnScope N ps (defScope st)) (hN : ps.length ≤ N.length)
    (hb : ∀ (cdv : Value) (A : Around) (outer : List Env) (s : Shared) (H : Hp) (E : XK), Room k (A.deeper (envOfC qual (defScope st) s.heap.objs.size f cdv)) → PXB (cxOf (L2.CX P w) P w K mg base N qual (defScope st) f cdv A outer s H E) (defBody st) b) :
    FnOk P w K mg base (L2.CX P w) (k + 1) f fd ps (spM rw ps.length (mk rw N.length b)) := by
  refine F.okX S (fun vs H Q E h => ?_) fun cdv A outer s H vs Q E hr h => ?_
  · obtain ⟨W, S', H1, ds, Q0, E0, _, _, r, hl, _⟩ := h
    rw [r.length]
    exact hl
  · obtain ⟨W, S', H1, ds, Q0, E0, rfl, B, r, hl, q, kr, ke⟩ := h
    have hb' := hb cdv A outer s (lockH W.L H1) E hr
    refine ⟨_, pssUnl (hb' ⟨W, H1, rw, fun C fs st => E0 C fs st.S, fun _ => False⟩ ?_), ?_⟩
    · refine Takes.imp (takesUnl (takes_of rfl rfl rfl rfl)) ?_
      rintro cls od σ H ⟨W', st', H2, C, fs, rfl, P', rfl, ex, e0⟩
      obtain ⟨un, s1, B1⟩ := P'.exit (X := cxOf (L2.CX P w) P w K mg base N qual (defScope st) f cdv A outer s (lockH W.L H1) E) B (fun _ _ _ z => z)
      exact ⟨_, un, ke C fs st'.S od _ H2 e0 s1 P'.new B1 rfl ex⟩
    · refine ⟨W, st0 rw N.length ds S', H1, ⟨fun st => Q0 (.d .non) st.S, fun o st => Q0 o st.S, fun _ => False, fun _ => False⟩, rfl, pre0 B r (by omega), ⟨fun st' W' σ' H2 q' P' _ => ?_, fun o st' W' σ' H2 v q' P' _ ov => ?_, fun st' W' σ' H2 q' P' _ => q'.elim, fun st' W' σ' H2 q' P' _ => q'.elim⟩, q⟩
      · obtain ⟨un, s1, B1⟩ := P'.exit (X := cxOf (L2.CX P w) P w K mg base N qual (defScope st) f cdv A outer s (lockH W.L H1) E) B (fun _ _ _ z => z)
        exact ⟨_, un, kr _ _ _ _ H2 q' s1 P'.new B1 rfl (.non : Rp W' H2 .non .non)⟩
      · obtain ⟨un, s1, B1⟩ := P'.exit (X := cxOf (L2.CX P w) P w K mg base N qual (defScope st) f cdv A outer s (lockH W.L H1) E) B (fun _ _ _ z => z)
        exact ⟨_, un, kr _ _ _ _ H2 q' s1 P'.new B1 rfl (RO.of_OV ov)⟩
end
/-! ### calls -/
theorem Step.own0 {rw : Bool} {W W' : Wd} {H H' : Hp} (s : Step rw W H W' H') (h : rw = false) : ∀ a, W'.own a → W.own a := fun a ho => (s.ownNew a ho).elim id fun z => by rw [h] at z; cases z.1
theorem Step.up {rw : Bool} {W W' : Wd} {H H' : Hp} (s : Step false W H W' H') : Step rw W H W' H' := ⟨s.cells, s.sub, fun a o e _ => s.keep a o e (fun z => by cases z), s.tups, s.dom, fun a h => (s.ownNew a h).elim .inl fun z => (by cases z.1), s.locks, fun a h => (s.ownOld a h).elim .inl fun z => by cases z⟩
theorem OV.of_RO {c : C0} {W W' : Wd} {st : Ps} {σ : L2.St} {H H' : Hp} {v : V} {o : O} {S' : List Cell} (P : Pre c W st σ H) (h : RO W' H H' v o) : OV c W' { st with S := S' } σ H' v o := by
  have go : ∀ {a : Addr}, H a = none → c.H0 a = none ∧ (∀ i, ¬ slotOwns st.ρ σ i a) ∧ ¬ c.R a := fun {a} e => by
    refine ⟨Classical.byContradiction fun y => P.step.dom a y e, fun i z => ?_, fun z => ?_⟩
    · obtain ⟨u, h, _⟩ := P.sthere z
      rw [e] at h
      cases h
    · obtain ⟨_, _, ⟨u, h⟩, _⟩ := P.rsv a z
      rw [e] at h
      cases h
  cases o with
  | un => exact h
  | d x => exact h
  | lst _ => obtain ⟨a, h1, h2, h3, h4, h5⟩ := h; exact ⟨a, h1, h2, h3, h4, go h5⟩
  | dK _ => obtain ⟨a, h1, h2, h3, h4, h5⟩ := h; exact ⟨a, h1, h2, h3, h4, go h5⟩
  | dT _ => obtain ⟨a, h1, h2, h3, h4, h5⟩ := h; exact ⟨a, h1, h2, h3, h4, go h5⟩
  | ins _ _ _ => obtain ⟨a, h1, h2, h3, h4, h5⟩ := h; exact ⟨a, h1, h2, h3, h4, go h5⟩
/-- a call that may change the store: the arguments become plain -/
def cE (rw : Bool) (np : Nat) (m : MF) (E : EK) (st : Ps) (rs : List R) (Q : O → Ps → Prop) : Prop := (rw = true → st.rw = true) ∧ opt (frzs st rs) fun q => q.1.length = np ∧ m q.1 (fun C fs S' => E C fs { q.2 with S := S' }) q.2.S fun o S' => Q o { q.2 with S := S' }
theorem cE_ok {c : C0} {W : Wd} {st : Ps} {σ : L2.St} {H : Hp} {rw : Bool} {np : Nat} {m : MF} {rs : List R} {vs : List V} {Q : VK} {Q1 : O → Ps → Prop} (P : Pre c W st σ H) (r : RVs W σ H vs rs) (h : cE rw np m c.E st rs Q1)
    (k : ∀ o st' v W' H2, Q1 o st' → Step c.rw W H W' H2 → Pre c W' st' σ H2 → OV c W' st' σ H2 v o → Q v (lockH W'.L H2)) : spM rw np m vs (lockH W.L H) Q (WE (wish c) σ) := by
  obtain ⟨hrw, h⟩ := h
  obtain ⟨q, e, hn, h⟩ := opt_ex h
  obtain ⟨W2, s2, P2, r2, eL⟩ := frzs_ok P e r
  have up : ∀ {W' H'}, Step rw W2 H W' H' → Step c.rw W2 H W' H' := fun {W' H'} s => by
    cases rw with
    | false => exact s.up
    | true =>
      have e : c.rw = true := P.hrw.symm.trans (hrw rfl)
      rw [e]
      exact s
  refine ⟨W2, q.2.S, H, q.1, _, _, by rw [eL], P2.base.to (fun z => P.hrw.symm.trans (hrw z)), r2, hn, h, fun o S' v W' H2 q0 s n B el ro => ?_, fun C fs S' od W' H2 q0 s n B el ex => ?_⟩
  · rw [← el]
    exact k _ _ _ _ _ q0 (s2.trans (up s)) (P2.call (up s) n (P2.base.back B el (up s) (fun z => s.own0 z) n)) (OV.of_RO P2 ro)
  · exact ⟨W', _, H2, C, fs, by rw [el], P2.call (up s) n (P2.base.back B el (up s) (fun z => s.own0 z) n), rfl, ex, q0⟩
/-- a call that changes nothing: a slot's own thing stays its own where the answer is a plain value -/
def isSc : O → Bool
  | .d .non => true
  | .d (.bl _) => true
  | .d (.int _) => true
  | .d (.str _) => true
  | .d (.byt _) => true
  | _ => false
def cP (np : Nat) (m : MF) (E : EK) (st : Ps) (rs : List R) (Q : O → Ps → Prop) : Prop := opt (looks st rs) fun ds => opt (frzs st rs) fun q => ds.length = np ∧ m ds (fun C fs S' => E C fs { q.2 with S := S' }) st.S fun o S' => if isSc o = true then Q o st else Q o { q.2 with S := S' }
theorem frz_look {st : Ps} {r : R} {q : D × Ps} {d : D} (e : frz st r = some q) (h : look st r = some d) : q.1 = d ∧ q.2.S = st.S := by
  cases r with
  | v x =>
    cases e
    cases h
    exact ⟨rfl, rfl⟩
  | ref i =>
    unfold frz at e
    unfold look at h
    dsimp only at e h
    cases z : st.ρ[i]? with
    | none => rw [z] at e; cases e
    | some o =>
      rw [z] at e h
      cases o <;> first | (cases e; done) | (cases e; cases h; exact ⟨rfl, rfl⟩)
theorem look_frz {st : Ps} {r : R} {q : D × Ps} (e : frz st r = some q) : ∀ r' d, look st r' = some d → look q.2 r' = some d := by
  intro r' d h
  cases r with
  | v x => cases e; exact h
  | ref i =>
    unfold frz at e
    dsimp only at e
    cases z : st.ρ[i]? with
    | none => rw [z] at e; cases e
    | some o =>
      rw [z] at e
      have go : o.owned = true → q = (o.toD, { st with ρ := st.ρ.set i (.d o.toD) }) → look q.2 r' = some d := fun ho eq => by
        subst eq
        cases r' with
        | v y => exact h
        | ref j =>
          unfold look at h ⊢
          dsimp only at h ⊢
          by_cases ji : j = i
          · subst ji
            rw [z] at h
            rw [List.getElem?_set, if_pos rfl, if_pos (List.getElem?_eq_some_iff.mp z).1]
            cases o <;> first | (cases ho; done) | exact h
          · rw [List.getElem?_set_ne (Ne.symm ji)]
            exact h
      cases o with
      | un => cases e
      | d x => cases e; exact h
      | lst _ => cases e; exact go rfl rfl
      | dK _ => cases e; exact go rfl rfl
      | dT _ => cases e; exact go rfl rfl
      | ins _ _ _ => cases e; exact go rfl rfl
theorem frzs_looks : ∀ {rs : List R} {st : Ps} {q : List D × Ps} {ds : List D}, frzs st rs = some q → looks st rs = some ds → q.1 = ds ∧ q.2.S = st.S
  | [], st, q, ds, e, h => by cases e; cases h; exact ⟨rfl, rfl⟩
  | r :: rs, st, q, ds, e, h => by
    unfold frzs at e
    unfold looks at h
    cases q1 : frz st r with
    | none => rw [q1] at e; cases e
    | some y =>
      rw [q1] at e
      dsimp only at e
      cases q2 : frzs y.2 rs with
      | none => rw [q2] at e; cases e
      | some z =>
        rw [q2] at e
        cases e
        cases l1 : look st r with
        | none => rw [l1] at h; cases h
        | some d =>
          cases l2 : looks st rs with
          | none => rw [l1, l2] at h; cases h
          | some ds' =>
            rw [l1, l2] at h
            cases h
            obtain ⟨a1, a2⟩ := frz_look q1 l1
            have l3 : looks y.2 rs = some ds' := by
              clear q2
              induction rs generalizing ds' with
              | nil => exact l2
              | cons r2 rs ih =>
                unfold looks at l2 ⊢
                cases m1 : look st r2 with
                | none => rw [m1] at l2; cases l2
                | some d2 =>
                  cases m2 : looks st rs with
                  | none => rw [m1, m2] at l2; cases l2
                  | some ds2 =>
                    rw [m1, m2] at l2
                    cases l2
                    rw [look_frz q1 _ _ m1, ih _ m2]
            obtain ⟨b1, b2⟩ := frzs_looks q2 l3
            exact ⟨by rw [a1, b1], by rw [b2, a2]⟩
theorem cP_ok {c : C0} {W : Wd} {st : Ps} {σ : L2.St} {H : Hp} {np : Nat} {m : MF} {rs : List R} {vs : List V} {Q : VK} {Q1 : O → Ps → Prop} (P : Pre c W st σ H) (r : RVs W σ H vs rs) (h : cP np m c.E st rs Q1)
    (k : ∀ o st' v W' H2, Q1 o st' → Step c.rw W H W' H2 → Pre c W' st' σ H2 → OV c W' st' σ H2 v o → Q v (lockH W'.L H2)) : spM false np m vs (lockH W.L H) Q (WE (wish c) σ) := by
  obtain ⟨ds, e1, h⟩ := opt_ex h
  obtain ⟨q, e2, hn, h⟩ := opt_ex h
  obtain ⟨W2, s2, P2, r2, eL⟩ := frzs_ok P e2 r
  obtain ⟨a1, a2⟩ := frzs_looks e2 e1
  rw [a1] at r2
  refine ⟨W2, st.S, H, ds, _, _, by rw [eL], by rw [← a2]; exact P2.base.to (fun z => by cases z), r2, hn, h, fun o S' v W' H2 q0 s n B el ro => ?_, fun C fs S' od W' H2 q0 s n B el ex => ?_⟩
  · dsimp only at q0
    split at q0
    · rename_i hs
      have sf : Step false W H W H2 := ⟨fun _ _ e => e, fun _ h => h, fun a o e _ => s.keep a o e (fun z => by cases z), s.tups, s.dom, fun _ h => .inl h, ⟨[], rfl⟩, fun _ h => .inl h⟩
      have P3 : Pre c W st σ H2 := P.call (S' := st.S) sf.up (fun a h => .inl h) (P.base.later sf)
      rw [eL]
      refine k _ _ v _ _ q0 sf.up P3 ?_
      unfold isSc at hs
      split at hs
      · have ro' : Rp W' H2 v .non := ro
        cases ro'; exact (.non : Rp W H2 .non .non)
      · have ro' : Rp W' H2 v (.bl _) := ro
        cases ro'; exact (.bl _ : Rp W H2 _ (.bl _))
      · have ro' : Rp W' H2 v (.int _) := ro
        cases ro'; exact (.int _ : Rp W H2 _ (.int _))
      · have ro' : Rp W' H2 v (.str _) := ro
        cases ro'; exact (.str _ : Rp W H2 _ (.str _))
      · have ro' : Rp W' H2 v (.byt _) := ro
        cases ro'; exact (.byt _ : Rp W H2 _ (.byt _))
      · cases hs
    · rw [← el]
      exact k _ _ _ _ _ q0 (s2.trans s.up) (P2.call s.up n (P2.base.back B el s.up (fun z => s.own0 z) n)) (OV.of_RO P2 ro)
  · exact ⟨W', _, H2, C, fs, by rw [el], P2.call s.up n (P2.base.back B el s.up (fun z => s.own0 z) n), rfl, ex, q0⟩
section
variable {X : Cx} {ee : Expr} {es : List Expr} {ga : Ax} {np : Nat} {m : MF} {rw : Bool}
def xE (rw : Bool) (np : Nat) (m : MF) (ga : Ax) : Ox := fun E st Q => ga E st fun rs st1 => cE rw np m E st1 rs Q
def xP (np : Nat) (m : MF) (ga : Ax) : Ox := fun E st Q => ga E st fun rs st1 => cP np m E st1 rs Q
/-- how a call is read, whatever is wanted of errors -/
def CallSp (X : Cx) (ee : Expr) (es : List Expr) (sp : Sp) : Prop := ∀ (Ew : WX), Takes X Ew → ∀ {t : TA}, PA X es t → PE X ee (tCallS sp (WE Ew) t)
theorem po_E (h : CallSp X ee es (spM rw np m)) (ha : PXA X es ga) : PO X ee (xE rw np m ga) := fun c l => peOf (h (wish c) l (ha c l)) fun σ H Q ⟨W, st, H1, Q0, hH, P, q, k⟩ =>
  ⟨W, st, H1, _, hH, P, q, fun rs st1 vs W1 H2 q1 s1 P1 rvs => cE_ok P1 rvs q1 fun o st' v W' H3 q0 s P' ov => k _ _ _ _ _ q0 (s1.trans s) P' ov⟩
theorem po_P (h : CallSp X ee es (spM false np m)) (ha : PXA X es ga) : PO X ee (xP np m ga) := fun c l => peOf (h (wish c) l (ha c l)) fun σ H Q ⟨W, st, H1, Q0, hH, P, q, k⟩ =>
  ⟨W, st, H1, _, hH, P, q, fun rs st1 vs W1 H2 q1 s1 P1 rvs => cP_ok P1 rvs q1 fun o st' v W' H3 q0 s P' ov => k _ _ _ _ _ q0 (s1.trans s) P' ov⟩
theorem call_sp {k : Nat} {f : Addr} {fd : FuncData} {ps : List Str} {sp : Sp} {x : Str} {p pos : Pos} {e : Expr} (F : FnOk X.prog X.w X.K X.mg X.base (L2.CX X.prog X.w) k f fd ps sp) (hr : Room k X.A) (hg : Gl X x) (hm : X.mg x = some (.ref f)) (hk : PySem.W.keepIn X.K (.ref f) = true) (hb : Binds X.K fd ps [])
    (hdb : (x == ("__debug__" : Str)) = false := by decide) (he : starEach (e :: es) X.env = (false, eval e X.env) :: starEach es X.env := by rfl) (hpl : (backTo pos (starEach es X.env)).any (·.1) = false := by rfl) : CallSp X (.Call (.Name x p) (e :: es) [] pos) (e :: es) sp :=
  fun Ew tk {t} ha => pe_callS F hr hg hm hk hb (fun σ => passAt tk σ) ha hdb he hpl
end
end Q
namespace Q
open PySem L2 PySem.Spec PyProof.Rows
/-! ### targets -/
abbrev Tg := D → Ps → (Ps → Prop) → Prop
theorem set_wipe {σ : L2.St} {i : Nat} {x : Option V} {vs : List Nat} (h : i ∈ vs) : wipe (σ.set i x) vs = wipe σ vs := by
  induction vs with
  | nil => cases h
  | cons v vs ih =>
    unfold wipe
    by_cases e : i ∈ vs
    · rw [ih e]
    · have e2 : i = v := (List.mem_cons.mp h).elim id fun z => absurd z e
      subst e2
      clear ih h
      have : ∀ (vs : List Nat), i ∉ vs → wipe (σ.set i x) vs = (wipe σ vs).set i x := by
        intro vs
        induction vs with
        | nil => intro _; rfl
        | cons w vs ih =>
          intro n
          rw [List.mem_cons, not_or] at n
          unfold wipe
          rw [ih n.2, List.set_comm _ _ n.1]
      rw [this vs e, List.set_set]
def tXG (c : C0) (tg : Tg) (is : List Nat) : TG := fun v σ H Q => ∃ W st H1 d Q0, H = lockH W.L H1 ∧ Pre c W st σ H1 ∧ Rp W H1 v d ∧ tg d st Q0 ∧
  ∀ st' σ', Q0 st' → Pre c W st' σ' H1 → (∀ vs : List Nat, (∀ i ∈ is, i ∈ vs) → wipe σ' vs = wipe σ vs) → Q σ' (lockH W.L H1)
def PXG (X : Cx) (e : Expr) (tg : Tg) (is : List Nat) : Prop := ∀ c, Lk X c → PG X e (tXG c tg is)
theorem pgOf {X : Cx} {e : Expr} {t t' : TG} (h : PG X e t) (m : ∀ v σ H Q, t' v σ H Q → t v σ H Q) : PG X e t' := ⟨fun pins s σ H v u Q I r q => h.run pins s σ H v u Q I r (m v σ H Q q)⟩
theorem pgsOf {X : Cx} {e : List Expr} {t t' : TGs} (h : PGs X e t) (m : ∀ v σ H Q, t' v σ H Q → t v σ H Q) : PGs X e t' := ⟨fun pins s σ H v u Q I r q => h.run pins s σ H v u Q I r (m v σ H Q q)⟩
def gN (i : Nat) : Tg := fun d st Q => Q { st with ρ := st.ρ.set i (.d d) }
theorem pxg_name {X : Cx} {e : Expr} {i : Nat} (h : PG X e (gName i)) : PXG X e (gN i) [i] := fun c l => pgOf h fun v σ H Q ⟨W, st, H1, d, Q0, hH, P, r, q, k⟩ => by
  subst hH
  exact k _ _ q (P.set i r) fun vs hv => set_wipe (hv i List.mem_cons_self)
abbrev Tgs := List D → Ps → (Ps → Prop) → Prop
def tXGs (c : C0) (tg : Tgs) (is : List Nat) : TGs := fun vs σ H Q => ∃ W st H1 ds Q0, H = lockH W.L H1 ∧ Pre c W st σ H1 ∧ RepL W.φ W.F H1 vs ds ∧ tg ds st Q0 ∧
  ∀ st' σ', Q0 st' → Pre c W st' σ' H1 → (∀ vs : List Nat, (∀ i ∈ is, i ∈ vs) → wipe σ' vs = wipe σ vs) → Q σ' (lockH W.L H1)
def PXGs (X : Cx) (es : List Expr) (tg : Tgs) (is : List Nat) : Prop := ∀ c, Lk X c → PGs X es (tXGs c tg is)
def gsN : Tgs := fun ds st Q => ds = [] ∧ Q st
def gsC (t : Tg) (u : Tgs) : Tgs := fun ds st Q => match ds with
  | d :: ds => t d st fun st' => u ds st' Q
  | [] => False
theorem pxgs_nil {X : Cx} : PXGs X [] gsN [] := fun c l => pgsOf pgs_nil fun vs σ H Q ⟨W, st, H1, ds, Q0, hH, P, r, q, k⟩ => by
  subst hH
  obtain ⟨rfl, q⟩ := q
  cases r
  exact ⟨rfl, k _ _ q P fun _ _ => rfl⟩
theorem pxgs_cons {X : Cx} {e : Expr} {es : List Expr} {t : Tg} {u : Tgs} {is js : List Nat} (h1 : PXG X e t is) (h2 : PXGs X es u js) (hs : (assignEach (e :: es) X.env).map (·.2) = assign e X.env :: (assignEach es X.env).map (·.2) := by rfl) : PXGs X (e :: es) (gsC t u) (is ++ js) :=
  fun c l => pgsOf (pgs_cons (h1 c l) (h2 c l) hs) fun vs σ H Q ⟨W, st, H1, ds, Q0, hH, P, r, q, k⟩ => by
    cases r with
    | nil => exact q.elim
    | cons r1 r2 =>
      exact ⟨_, _, rfl, W, st, H1, _, _, hH, P, r1, q, fun st' σ' q' P' w1 => ⟨W, st', H1, _, _, rfl, P', r2, q', fun st2 σ2 q2 P2 w2 => k _ _ q2 P2 fun vs hv => (w2 vs fun i hi => hv i (List.mem_append_right _ hi)).trans (w1 vs fun i hi => hv i (List.mem_append_left _ hi))⟩⟩
def gT (n : Nat) (u : Tgs) : Tg := fun d st Q => match d with
  | .tup ds => ds.length = n ∧ u ds st Q
  | _ => False
theorem pxg_tup {X : Cx} {es : List Expr} {k n : Nat} {u : Tgs} {is : List Nat} {pos : Pos} (hc : X.calm = true) (h : PXGs X es u is) (hn : (assignEach es X.env).length = n := by rfl) (hst : (assignEach es X.env).findIdx? (·.1) = none := by rfl) : PXG X (.Tuple es k pos) (gT n u) is :=
  fun c l => pgOf (pg_tup hc (h c l) hn hst) fun v σ H Q ⟨W, st, H1, d, Q0, hH, P, r, q, k⟩ => by
    unfold gT at q
    split at q
    · obtain ⟨hl, q⟩ := q
      cases r with
      | tup h1 r1 =>
        subst hH
        exact ⟨_, _, rfl, SqT.of (P.nol h1 rfl), by rw [r1.length]; exact hl, W, st, H1, _, Q0, rfl, P, r1, q, k⟩
    · exact q.elim
/-- targets = value -/
def sAsg (g : Ox) (tg : Tg) : Sx := fun E K st => g E st fun o st1 => tg o.toD st1 fun st2 => K.nx st2
theorem pxs_asg {X : Cx} {e tge : Expr} {s : Stmt} {g : Ox} {tg : Tg} {is : List Nat} (h : ∀ {t : TE} {g : TG}, PE X e t → PG X tge g → PS X s (tAsg t g)) (he : PO X e g) (hg : PXG X tge tg is) : PXS X s (sAsg g tg) := fun c l => psOf (h (he c l) (hg c l)) fun D σ H ⟨W, st, H1, K, hH, P, ek, q⟩ =>
  ⟨W, st, H1, _, hH, P, q, fun o st1 v W1 H2 q1 s1 P1 ov => by
    obtain ⟨W3, s3, P3, r, eL⟩ := OV.plain P1 ov
    exact ⟨W3, st1, H2, _, _, by rw [eL], P3, r, q1, fun st' σ' q' P' _ => ek.1 _ _ _ _ q' P' (P.aft (s1.trans s3))⟩⟩

/-! ### what is walked -/
def YD (W : Wd) (H : Hp) (x : V) (H3 : Hp) (d : D) : Prop := (H3 = lockH W.L H ∧ Rp W H x d) ∨ ∃ T ys es, x = .ref T ∧ H T = none ∧ W.L.lookup T = none ∧ H3 = upd (lockH W.L H) T (.tup ys) ∧ d = .tup es ∧ RepL W.φ W.F H ys es
def Goes (c : C0) (W : Wd) (H : Hp) (J : It) (ds : List D) : Prop := ∀ (Z : Addr → Prop) W2 st2 σ2 H2, Pre { c with R := Z } W2 st2 σ2 H2 → Aft W H W2 H2 →
  (∀ i d, ds[i]? = some d → J.go i (lockH W2.L H2) ∧ ∀ x H3, J.yld i (lockH W2.L H2) x H3 → YD W2 H2 x H3 d) ∧ ∀ i, ds.length ≤ i → J.stop i (lockH W2.L H2)
theorem YD.ok {c : C0} {W : Wd} {st : Ps} {σ : L2.St} {H H3 : Hp} {x : V} {d : D} (P : Pre c W st σ H) (h : YD W H x H3 d) : ∃ H', H3 = lockH W.L H' ∧ Step c.rw W H W H' ∧ Pre c W st σ H' ∧ Rp W H' x d := by
  rcases h with ⟨rfl, r⟩ | ⟨T, ys, es, rfl, hT, hl, rfl, rfl, r⟩
  · exact ⟨H, rfl, .refl _ _ _, P, r⟩
  · obtain ⟨s, P', _⟩ := P.fresh (o := .tup ys) hT
    exact ⟨_, lock_upd hl, s, P', .tup upd_same (r.fut (P.fut s))⟩
abbrev Ix := EK → Ps → (List D → Ps → Prop) → Prop
def tXI (c : C0) (f : Ix) : TI := fun σ H R => ∃ W st H1 Q0, H = lockH W.L H1 ∧ Pre c W st σ H1 ∧ f c.E st Q0 ∧
  ∀ ds st' W' H2 J, Q0 ds st' → Step c.rw W H1 W' H2 → Pre c W' st' σ H2 → Goes c W' H2 J ds → R J (lockH W'.L H2)
def PXI (X : Cx) (tg iter : Expr) (f : Ix) : Prop := ∀ c, Lk X c → PI X tg iter (tXI c f)
theorem piOf {X : Cx} {tg iter : Expr} {t t' : TI} (h : PI X tg iter t) (m : ∀ σ H R, t' σ H R → t σ H R) : PI X tg iter t' := ⟨fun pins s σ H R I q => h.run pins s σ H R I (m σ H R q)⟩

/-! ### for -/
def forW (tg : Tg) (b : Sx) (E : EK) (K : En) : List D → Ps → Prop
  | [], st => K.nx st
  | d :: ds, st => tg d st fun st' => b E ⟨forW tg b E K ds, K.rt, K.nx, forW tg b E K ds⟩ st'
def sFor (f : Ix) (tg : Tg) (b : Sx) : Sx := fun E K st => f E st fun ds st1 => forW tg b E K ds st1
theorem pxs_for {X : Cx} {tge iter : Expr} {body : List Stmt} {s : Stmt} {f : Ix} {tg : Tg} {is : List Nat} {b : Sx} (h : ∀ {wi : TI} {g : TG} {tb : TS}, PI X tge iter wi → PG X tge g → PSs X body tb → PS X s (tFor wi g tb)) (hi : PXI X tge iter f) (hg : PXG X tge tg is) (hb : PXB X body b) : PXS X s (sFor f tg b) :=
  fun c l => psOf (h (hi c l) (hg c l) (hb c l)) fun D σ H ⟨W, st, H1, K, hH, P, ek, q⟩ => by
    refine ⟨W, st, H1, _, hH, P, q, fun ds st1 W1 H2 J q1 s1 P1 go => ?_⟩
    refine ⟨fun i m σ H => m = ds.length - i ∧ i ≤ ds.length ∧ ∃ W2 st2 H3, H = lockH W2.L H3 ∧ Pre c W2 st2 σ H3 ∧ Aft W1 H2 W2 H3 ∧ forW tg b c.E K (ds.drop i) st2, ⟨ds.length, by simp, Nat.zero_le _, W1, st1, H2, rfl, P1, .refl _ _, q1⟩, ?_⟩
    rintro i m σ2 Hh ⟨rfl, hi, W2, st2, H3, rfl, P2, a2, q2⟩
    obtain ⟨g1, g2⟩ := go c.R W2 st2 σ2 H3 P2 a2
    by_cases hlt : i < ds.length
    · obtain ⟨g3, g4⟩ := g1 i ds[i] (List.getElem?_eq_getElem hlt)
      rw [List.drop_eq_getElem_cons hlt] at q2
      refine .inr ⟨g3, fun σ' H' => i + 1 ≤ ds.length ∧ ∃ W2 st2 H3, H' = lockH W2.L H3 ∧ Pre c W2 st2 σ' H3 ∧ Aft W1 H2 W2 H3 ∧ forW tg b c.E K (ds.drop (i + 1)) st2, fun σ' H' z => ⟨ds.length - (i + 1), by omega, rfl, z⟩, fun x H' y => ?_⟩
      obtain ⟨H4, rfl, s4, P4, r4⟩ := YD.ok P2 (g4 x H' y)
      refine ⟨W2, st2, H4, _, _, rfl, P4, r4, q2, fun st5 σ5 q5 P5 _ => ⟨W2, st5, H4, _, rfl, P5, ⟨?_, ?_, ?_, ?_⟩, q5⟩⟩
      · exact fun st W6 σ H6 q P6 a6 => ⟨hlt, W6, st, H6, rfl, P6, (a2.trans (P2.aft s4)).trans a6, q⟩
      · exact fun o st W6 σ H6 v q P6 a6 ov => ek.2.1 _ _ _ _ _ _ q P6 ((((P.aft s1).trans a2).trans (P2.aft s4)).trans a6) ov
      · exact fun st W6 σ H6 q P6 a6 => ek.1 _ _ _ _ q P6 ((((P.aft s1).trans a2).trans (P2.aft s4)).trans a6)
      · exact fun st W6 σ H6 q P6 a6 => ⟨hlt, W6, st, H6, rfl, P6, (a2.trans (P2.aft s4)).trans a6, q⟩
    · have e : i = ds.length := by omega
      rw [e, List.drop_length] at q2
      exact .inl ⟨g2 i (by omega), ek.1 _ _ _ _ q2 P2 ((P.aft s1).trans a2)⟩

/-! ### while: at most n turns -/
def whileW (t : Tx) (b : Sx) (E : EK) (K : En) : Nat → Ps → Prop
  | 0, _ => False
  | n + 1, st => t E st fun x st' => if x = true then b E ⟨whileW t b E K n, K.rt, K.nx, whileW t b E K n⟩ st' else K.nx st'
def sWhile (t : Tx) (b : Sx) : Sx := fun E K st => ∃ n, whileW t b E K n st
theorem pxs_while {X : Cx} {te : Expr} {body : List Stmt} {s : Stmt} {t : Tx} {b : Sx} (h : ∀ {tt : TT} {tb : TS}, PT X te tt → PSs X body tb → PS X s (tWhile tt tb)) (ht : PXT X te t) (hb : PXB X body b) : PXS X s (sWhile t b) :=
  fun c l => psOf (h (ht c l) (hb c l)) fun D σ H ⟨W, st, H1, K, hH, P, ek, n, q⟩ => by
    refine ⟨fun m σ H => ∃ W2 st2 H3, H = lockH W2.L H3 ∧ Pre c W2 st2 σ H3 ∧ Aft W H1 W2 H3 ∧ whileW t b c.E K m st2, ⟨n, W, st, H1, hH, P, .refl _ _, q⟩, ?_⟩
    rintro m σ2 Hh ⟨W2, st2, H3, rfl, P2, a2, q2⟩
    cases m with
    | zero => exact q2.elim
    | succ m =>
      refine ⟨W2, st2, H3, _, rfl, P2, q2, fun x st3 W3 H4 q3 s3 P3 => ?_⟩
      cases x with
      | false => exact iteF (ek.1 _ _ _ _ q3 P3 (a2.trans (P2.aft s3)))
      | true =>
        refine iteT ⟨fun σ' H' => ∃ W2 st2 H3, H' = lockH W2.L H3 ∧ Pre c W2 st2 σ' H3 ∧ Aft W H1 W2 H3 ∧ whileW t b c.E K m st2, fun σ' H' z => ⟨m, Nat.lt_succ_self m, z⟩, W3, st3, H4, _, rfl, P3, ⟨?_, ?_, ?_, ?_⟩, q3⟩
        · exact fun st W6 σ H6 q P6 a6 => ⟨W6, st, H6, rfl, P6, (a2.trans (P2.aft s3)).trans a6, q⟩
        · exact fun o st W6 σ H6 v q P6 a6 ov => ek.2.1 _ _ _ _ _ _ q P6 ((a2.trans (P2.aft s3)).trans a6) ov
        · exact fun st W6 σ H6 q P6 a6 => ek.1 _ _ _ _ q P6 ((a2.trans (P2.aft s3)).trans a6)
        · exact fun st W6 σ H6 q P6 a6 => ⟨W6, st, H6, rfl, P6, (a2.trans (P2.aft s3)).trans a6, q⟩
end Q
namespace Q
open PySem L2 PySem.Spec PyProof.Rows
/-! ### a list, a tuple, a dict by its keys, a text -/
def rIt (K : PySem.W.Frag) (x : V) (H : Hp) (R : It → Hp → Prop) : Prop :=
  (∃ a, x = .ref a ∧ (∃ xs, SqL K H a xs) ∧ R (Itl K a) H) ∨ (∃ a, x = .ref a ∧ (∃ xs, SqT K H a xs) ∧ R (Itt K a) H) ∨ (∃ z, x = .str z ∧ R (Its z) H) ∨
  (∃ d kvs, x = .ref d ∧ ((∃ o, H d = some (.frz o (.dK kvs)) ∧ R (Itk d o kvs) H) ∨ (H d = some (.dK kvs) ∧ ∀ o, R (Itk d o kvs) (upd H d (.frz o (.dK kvs)))))) ∨
  (∃ d kvs, x = .ref d ∧ ((∃ o, H d = some (.frz o (.dT kvs)) ∧ R (Itkt d o kvs) H) ∨ (H d = some (.dT kvs) ∧ ∀ o, R (Itkt d o kvs) (upd H d (.frz o (.dT kvs))))))
section
variable {X : Cx} {pins : List (Addr × Obj)} {σ : L2.St} {s : Shared} {tg : Expr} {R : It → Hp → Prop}
theorem it_dK {H : Hp} {d : Addr} {o : Obj} {kvs : List (Key × V)} (I : L2.Inv X pins σ H s) (h : H d = some (.frz o (.dK kvs))) (q : R (Itk d o kvs) H) : wpAny (model X.prog X.w) X.A (pyIter (.ref d)) (PIE X pins σ tg R) X.xe s := by
  obtain ⟨hs, hgd, hx, es, ep, vs, hdt, hsz, kv, hm⟩ := I.frzK h
  exact iter_keys hs hgd hx hdt (pi_one (tk := s.toks) I _ (turn_keys _ hdt) ⟨_, Heap.get?_push_size _ rfl, rfl, by rw [hsz]; rfl⟩ q)
theorem it_dT {H : Hp} {d : Addr} {o : Obj} {kvs : List (List Key × V)} (I : L2.Inv X pins σ H s) (h : H d = some (.frz o (.dT kvs))) (q : R (Itkt d o kvs) H) : wpAny (model X.prog X.w) X.A (pyIter (.ref d)) (PIE X pins σ tg R) X.xe s := by
  obtain ⟨hs, hgd, hx, es, ep, hdt, hsz, en⟩ := I.frzT h
  exact iter_keys hs hgd hx hdt (pi_one (tk := s.toks) I _ (turn_keysT _ hdt) ⟨_, Heap.get?_push_size _ rfl, rfl, by rw [hsz]; rfl⟩ q)
theorem it_any {H : Hp} {x : V} {u : Value} (I : L2.Inv X pins σ H s) (r : RelV x u) (q : rIt X.K x H R) : wpAny (model X.prog X.w) X.A (pyIter u) (PIE X pins σ tg R) X.xe s := by
  rcases q with ⟨a, rfl, ⟨xs, hq⟩, q⟩ | ⟨a, rfl, ⟨xs, hq⟩, q⟩ | ⟨z, rfl, q⟩ | ⟨d, kvs, rfl, ⟨o, h, q⟩ | ⟨h, q⟩⟩ | ⟨d, kvs, rfl, ⟨o, h, q⟩ | ⟨h, q⟩⟩
  · cases r
    obtain ⟨its, rv, p, hz⟩ := I.list hq
    exact wpAny_pyIter_list p.isList (pi_one (tk := s.toks) I _ (turn_list a _) ⟨_, Heap.get?_push_size _ rfl, rfl, rfl⟩ q)
  · cases r
    obtain ⟨its, rv, p, hz⟩ := I.tuple hq
    exact wpAny_pyIter_tuple (show s.heap.IsTuple a its.toArray from p) (pi_one (tk := s.toks) I _ (turn_tuple a _) ⟨_, Heap.get?_push_size _ rfl, rfl, rfl⟩ q)
  · obtain ⟨t, rfl⟩ := r
    cases ha : z.cps.all (· < 128) with
    | false => exact wpAny_pyIter_wide ha (pi_one (tk := s.toks) I _ (turn_str _ z t "str_iterator" (.inr rfl)) ⟨_, Heap.get?_push_size _ rfl, rfl, rfl⟩ q)
    | true => exact wpAny_pyIter_ascii ha (pi_one (tk := s.toks) I _ (turn_str _ z t "str_ascii_iterator" (.inl rfl)) ⟨_, Heap.get?_push_size _ rfl, rfl, rfl⟩ q)
  · cases r
    exact it_dK I h q
  · cases r
    obtain ⟨od, I2⟩ := I.lock h trivial
    exact it_dK I2 upd_same (q od)
  · cases r
    exact it_dT I h q
  · cases r
    obtain ⟨od, I2⟩ := I.lock h trivial
    exact it_dT I2 upd_same (q od)
theorem pi_any {l : Expr} {tl : TE} (hl : PE X l tl) : PI X tg l (fun σ H R => tl σ H fun x H1 => rIt X.K x H1 R) := ⟨fun pins s σ H R I h => thn (hl.run pins s σ H _ I h) fun v s1 ⟨x, H1, I1, r1, q⟩ => it_any I1 r1 q⟩
end
/-! ### locks -/
def Wd.lk (W : Wd) (d : Addr) (o : Obj) : Wd := { W with L := (d, o) :: W.L }
theorem Pre.lock {c : C0} {W : Wd} {st : Ps} {σ : L2.St} {H : Hp} (P : Pre c W st σ H) {d : Addr} {u : HO} (o : Obj) (hF : W.F d ∨ c.rw = false ∧ W.own d) (hd : H d = some u) (hu : dictO u = true) (hl : W.L.lookup d = none) :
    Step c.rw W H (W.lk d o) H ∧ Pre c (W.lk d o) st σ H ∧ lockH (W.lk d o).L H = upd (lockH W.L H) d (.frz o u) := by
  have s1 : Step c.rw W H (W.lk d o) H := ⟨fun _ _ e => e, fun _ h => h, fun _ _ e _ => e, fun _ _ e => e, fun _ h => h, fun _ h => .inl h, ⟨[(d, o)], rfl⟩, fun _ h => .inl h⟩
  have e1 : ∀ b, ((d, o) :: W.L).lookup b = if b = d then some o else W.L.lookup b := fun b => by
    rw [List.lookup_cons]
    by_cases e : b = d
    · subst e
      simp
    · rw [beq_eq_false_iff_ne.mpr e, if_neg e]
  refine ⟨s1, ⟨P.hrw, P.step.trans s1, P.new, ⟨P.base.fdom, P.base.len, P.base.cell, P.base.apart, P.base.ownF, ?_, fun a ob h => ?_⟩, P.slen, P.slot, P.sown, P.sapart, P.rsv, P.hvw, P.own0⟩, ?_⟩
  · show ((d, o) :: W.L).map (·.1) |>.Nodup
    rw [List.map_cons, List.nodup_cons]
    refine ⟨fun z => ?_, P.base.lN⟩
    obtain ⟨p, hp, e⟩ := List.mem_map.mp z
    have := lookup_of_mem P.base.lN hp
    rw [show p.1 = d from e, hl] at this
    cases this
  · have h' : ((d, o) :: W.L).lookup a = some ob := h
    rw [e1] at h'
    split at h'
    · rename_i z
      subst z
      exact ⟨hF, u, hd, hu⟩
    · exact P.base.lF a ob h'
  · funext b
    show lockH ((d, o) :: W.L) H b = _
    unfold lockH
    rw [e1]
    by_cases z : b = d
    · subst z
      rw [if_pos rfl, upd_same, hd]
      rfl
    · rw [if_neg z, upd_ne z]
/-! ### the items -/
def kD : Key → D
  | .inl i => .int i
  | .inr s => .str s
def itemsD : D → Option (List D)
  | .lst xs => some xs
  | .tup xs => some xs
  | .dK kvs => some (kvs.map fun kv => kD kv.1)
  | .dT kvs => some (kvs.map fun kv => .tup (kv.1.map kD))
  | .str s => some (s.cps.toList.map fun c => .str ⟨#[c]⟩)
  | _ => none
def iA (f : Ex) : Ix := fun E st Q => f E st fun r st1 => opt (frz st1 r) fun q => opt (itemsD q.1) fun ds => Q ds q.2
theorem kD_rep (φ F H) (k : Key) : Rep φ F H (kV k) (kD k) := by
  cases k with
  | inl i => exact .int i
  | inr s => exact .str s
theorem kDs_rep (φ F H) : ∀ ks : List Key, RepL φ F H (ks.map kV) (ks.map kD)
  | [] => .nil
  | k :: ks => .cons (kD_rep φ F H k) (kDs_rep φ F H ks)
theorem RepK.length {φ F H} : ∀ {vs : List (Key × V)} {ds : List (Key × D)}, RepK φ F H vs ds → vs.length = ds.length
  | _, _, .nil => rfl
  | _, _, .cons _ t => congrArg (· + 1) t.length
theorem RepT.length {φ F H} : ∀ {vs : List (List Key × V)} {ds : List (List Key × D)}, RepT φ F H vs ds → vs.length = ds.length
  | _, _, .nil => rfl
  | _, _, .cons _ t => congrArg (· + 1) t.length
theorem RepK.get {φ F H} : ∀ {vs : List (Key × V)} {ds : List (Key × D)} {i : Nat} {k : Key} {v : V}, RepK φ F H vs ds → vs[i]? = some (k, v) → ∃ d, ds[i]? = some (k, d) ∧ Rep φ F H v d
  | _, _, i, k, v, .nil, e => by simp at e
  | _, _, 0, k, v, .cons h _, e => by cases e; exact ⟨_, rfl, h⟩
  | _, _, i + 1, k, v, .cons _ t, e => by
    obtain ⟨d, h1, h2⟩ := t.get (i := i) (by simpa using e)
    exact ⟨d, by simpa using h1, h2⟩
theorem RepT.get {φ F H} : ∀ {vs : List (List Key × V)} {ds : List (List Key × D)} {i : Nat} {k : List Key} {v : V}, RepT φ F H vs ds → vs[i]? = some (k, v) → ∃ d, ds[i]? = some (k, d) ∧ Rep φ F H v d
  | _, _, i, k, v, .nil, e => by simp at e
  | _, _, 0, k, v, .cons h _, e => by cases e; exact ⟨_, rfl, h⟩
  | _, _, i + 1, k, v, .cons _ t, e => by
    obtain ⟨d, h1, h2⟩ := t.get (i := i) (by simpa using e)
    exact ⟨d, by simpa using h1, h2⟩
section
variable {c : C0} {W : Wd} {st : Ps} {σ : L2.St} {H : Hp} {K : PySem.W.Frag}
theorem goes_l {a : Addr} {xs : List V} {ds : List D} (hF : W.F a) (h : H a = some (.lst xs)) (r : RepL W.φ W.F H xs ds) : Goes c W H (Itl K a) ds := fun Z W2 st2 σ2 H2 P2 a2 => by
  have h2 : SqL K (lockH W2.L H2) a xs := SqL.of (P2.nol (a2.fut.keep a _ hF h) rfl)
  have r2 := r.fut a2.fut
  refine ⟨fun i d e => ?_, fun i hi => ⟨xs, h2, by rw [r.length]; exact hi⟩⟩
  obtain ⟨v, e1, e2⟩ := r2.get e
  refine ⟨⟨xs, v, h2, e1⟩, ?_⟩
  rintro x H3 ⟨rfl, y⟩
  have := y xs h2
  rw [e1] at this
  cases this
  exact .inl ⟨rfl, e2⟩
theorem goes_t {a : Addr} {xs : List V} {ds : List D} (h : H a = some (.tup xs)) (r : RepL W.φ W.F H xs ds) : Goes c W H (Itt K a) ds := fun Z W2 st2 σ2 H2 P2 a2 => by
  have h2 : SqT K (lockH W2.L H2) a xs := SqT.of (P2.nol (a2.fut.tups a _ h) rfl)
  have r2 := r.fut a2.fut
  refine ⟨fun i d e => ?_, fun i hi => ⟨xs, h2, by rw [r.length]; exact hi⟩⟩
  obtain ⟨v, e1, e2⟩ := r2.get e
  refine ⟨⟨xs, v, h2, e1⟩, ?_⟩
  rintro x H3 ⟨rfl, y⟩
  have := y xs h2
  rw [e1] at this
  cases this
  exact .inl ⟨rfl, e2⟩
theorem goes_s (z : Str) : Goes c W H (Its z) (z.cps.toList.map fun c => .str ⟨#[c]⟩) := fun Z W2 st2 σ2 H2 P2 a2 => by
  refine ⟨fun i d e => ?_, fun i hi => ?_⟩
  · rw [List.getElem?_map] at e
    cases q : z.cps.toList[i]? with
    | none => rw [q] at e; cases e
    | some c =>
      rw [q] at e
      cases e
      refine ⟨?_, ?_⟩
      · have := (List.getElem?_eq_some_iff.mp q).1
        rw [Array.length_toList] at this
        exact this
      · rintro x H3 ⟨rfl, c', e1, rfl⟩
        rw [← Array.getElem?_toList, q] at e1
        cases e1
        exact .inl ⟨rfl, .str _⟩
  · rw [List.length_map, Array.length_toList] at hi
    exact hi
theorem lk_at {W W2 : Wd} {H H2 : Hp} {d : Addr} {o : Obj} {u : HO} {Z : Addr → Prop} {st2 : Ps} {σ2 : L2.St} (P2 : Pre { c with R := Z } W2 st2 σ2 H2) (a2 : Aft W H W2 H2) (hF : W.F d) (hl : W.L.lookup d = some o) (h : H d = some u) : lockH W2.L H2 d = some (.frz o u) := by
  obtain ⟨more, e⟩ := a2.locks
  have hm : (d, o) ∈ W.L := by
    clear a2 P2 h hF e
    generalize W.L = L at hl
    induction L with
    | nil => cases hl
    | cons p L ih =>
      obtain ⟨a, o'⟩ := p
      rw [List.lookup_cons] at hl
      cases q : d == a with
      | true =>
        rw [q] at hl
        cases hl
        rw [beq_iff_eq.mp q]
        exact List.mem_cons_self
      | false =>
        rw [q] at hl
        exact List.mem_cons_of_mem _ (ih hl)
  have := lookup_of_mem P2.base.lN (show (d, o) ∈ W2.L by rw [e]; exact List.mem_append_right _ hm)
  show lockH W2.L H2 d = _
  unfold lockH
  rw [this, a2.fut.keep d u hF h]
  rfl
theorem goes_k {d : Addr} {o : Obj} {xs : List (Key × V)} {ds : List (Key × D)} (hF : W.F d) (hl : W.L.lookup d = some o) (h : H d = some (.dK xs)) (r : RepK W.φ W.F H xs ds) : Goes c W H (Itk d o xs) (ds.map fun kv => kD kv.1) := fun Z W2 st2 σ2 H2 P2 a2 => by
  have h2 := lk_at P2 a2 hF hl h
  have hlen := r.length
  refine ⟨fun i x e => ?_, fun i hi => ⟨h2, by rw [List.length_map] at hi; omega⟩⟩
  have hi : i < ds.length := by
    have := (List.getElem?_eq_some_iff.mp e).1
    rw [List.length_map] at this
    exact this
  refine ⟨⟨h2, by omega⟩, ?_⟩
  rintro y H3 ⟨rfl, k, v, e1, rfl⟩
  obtain ⟨d', e2, _⟩ := r.get e1
  rw [List.getElem?_map, e2] at e
  cases e
  exact .inl ⟨rfl, kD_rep _ _ _ k⟩
theorem goes_kt {d : Addr} {o : Obj} {xs : List (List Key × V)} {ds : List (List Key × D)} (hF : W.F d) (hl : W.L.lookup d = some o) (h : H d = some (.dT xs)) (r : RepT W.φ W.F H xs ds) : Goes c W H (Itkt d o xs) (ds.map fun kv => .tup (kv.1.map kD)) := fun Z W2 st2 σ2 H2 P2 a2 => by
  have h2 := lk_at P2 a2 hF hl h
  have hlen := r.length
  refine ⟨fun i x e => ?_, fun i hi => ⟨h2, by rw [List.length_map] at hi; omega⟩⟩
  have hi : i < ds.length := by
    have := (List.getElem?_eq_some_iff.mp e).1
    rw [List.length_map] at this
    exact this
  refine ⟨⟨h2, by omega⟩, ?_⟩
  rintro y H3 ⟨rfl, k, v, q, e1, rfl, hq⟩
  obtain ⟨d', e2, _⟩ := r.get e1
  rw [List.getElem?_map, e2] at e
  cases e
  refine .inl ⟨rfl, .tup (xs := k.map kV) ?_ (kDs_rep _ _ _ k)⟩
  have : ∀ {a : Addr} {xs : List V}, lockH W2.L H2 a = some (.tup xs) → H2 a = some (.tup xs) := fun {a xs} z => by
    unfold lockH at z
    cases m : W2.L.lookup a with
    | none => rw [m] at z; exact z
    | some ob =>
      rw [m] at z
      cases m2 : H2 a with
      | none => rw [m2] at z; cases z
      | some w => rw [m2] at z; cases z
  exact this hq
end
theorem pxi_any {X : Cx} {tg e : Expr} {f : Ex} (h : PX X e f) : PXI X tg e (iA f) := fun c l => piOf (pi_any (h c l)) fun σ H R ⟨W, st, H1, Q0, hH, P, q, k⟩ => ⟨W, st, H1, _, hH, P, q, fun r st1 v W1 H2 q1 s1 P1 rv => by
  obtain ⟨y, e1, q1⟩ := opt_ex q1
  obtain ⟨ds, e2, q1⟩ := opt_ex q1
  obtain ⟨W2, s2, P2, r2, eL⟩ := frz_ok P1 e1 rv
  rw [← eL]
  have s12 := s1.trans s2
  obtain ⟨d, st2⟩ := y
  dsimp only at r2 P2 e2 q1
  unfold itemsD at e2
  split at e2
  · cases e2
    cases r2 with
    | lst h1 h2 h3 => exact .inl ⟨_, rfl, ⟨_, SqL.of (P2.nol h2 rfl)⟩, k _ _ _ _ _ q1 s12 P2 (goes_l h1 h2 h3)⟩
  · cases e2
    cases r2 with
    | tup h2 h3 => exact .inr (.inl ⟨_, rfl, ⟨_, SqT.of (P2.nol h2 rfl)⟩, k _ _ _ _ _ q1 s12 P2 (goes_t h2 h3)⟩)
  · cases e2
    cases r2 with
    | dK h1 h2 h3 =>
      rename_i a xs
      refine .inr (.inr (.inr (.inl ⟨a, xs, rfl, ?_⟩)))
      cases hl : W2.L.lookup a with
      | some o => exact .inl ⟨o, by show lockH W2.L H2 a = _; unfold lockH; rw [hl, h2]; rfl, k _ _ _ _ _ q1 s12 P2 (goes_k h1 hl h2 h3)⟩
      | none =>
        refine .inr ⟨(lock_at hl).trans h2, fun o => ?_⟩
        obtain ⟨s3, P3, e3⟩ := P2.lock o (.inl h1) h2 rfl hl
        rw [← e3]
        exact k _ _ _ _ _ q1 (s12.trans s3) P3 (goes_k (W := W2.lk a o) h1 (by show ((a, o) :: W2.L).lookup a = _; rw [List.lookup_cons]; simp) h2 h3)
  · cases e2
    cases r2 with
    | dT h1 h2 h3 =>
      rename_i a xs
      refine .inr (.inr (.inr (.inr ⟨a, xs, rfl, ?_⟩)))
      cases hl : W2.L.lookup a with
      | some o => exact .inl ⟨o, by show lockH W2.L H2 a = _; unfold lockH; rw [hl, h2]; rfl, k _ _ _ _ _ q1 s12 P2 (goes_kt h1 hl h2 h3)⟩
      | none =>
        refine .inr ⟨(lock_at hl).trans h2, fun o => ?_⟩
        obtain ⟨s3, P3, e3⟩ := P2.lock o (.inl h1) h2 rfl hl
        rw [← e3]
        exact k _ _ _ _ _ q1 (s12.trans s3) P3 (goes_kt (W := W2.lk a o) h1 (by show ((a, o) :: W2.L).lookup a = _; rw [List.lookup_cons]; simp) h2 h3)
  · cases e2
    cases r2
    exact .inr (.inr (.inl ⟨_, rfl, k _ _ _ _ _ q1 s12 P2 (goes_s _)⟩))
  · cases e2⟩
end Q
namespace Q
open PySem L2 PySem.Spec PyProof.Rows
/-! ### range, enumerate, zip -/
def rngD (lo : Int) (n : Nat) : List D := (List.range n).map fun (i : Nat) => D.int (lo + (i : Int))
def iR1 (g : Ax) : Ix := fun E st Q => g E st fun rs st1 => opt (looks st1 rs) fun ds => match ds with
  | [.int j] => (-(2 ^ 62) ≤ j ∧ j < 2 ^ 62) ∧ Q (rngD 0 j.toNat) st1
  | _ => False
def iR2 (g : Ax) : Ix := fun E st Q => g E st fun rs st1 => opt (looks st1 rs) fun ds => match ds with
  | [.int i, .int j] => (-(2 ^ 62) ≤ i ∧ i < 2 ^ 62 ∧ -(2 ^ 62) ≤ j ∧ j < 2 ^ 62) ∧ Q (rngD i (j - i).toNat) st1
  | _ => False
theorem goes_r {c : C0} {W : Wd} {H : Hp} (lo : Int) (n : Nat) : Goes c W H (L2.Itr lo n) (rngD lo n) := fun Z W2 st2 σ2 H2 P2 a2 => by
  refine ⟨fun i d e => ?_, fun i hi => by unfold rngD at hi; rw [List.length_map, List.length_range] at hi; exact hi⟩
  unfold rngD at e
  rw [List.getElem?_map] at e
  cases q : (List.range n)[i]? with
  | none => rw [q] at e; cases e
  | some j =>
    rw [q] at e
    cases e
    have hi := (List.getElem?_eq_some_iff.mp q).1
    rw [List.length_range] at hi
    rw [List.getElem?_range hi] at q
    cases q
    refine ⟨hi, ?_⟩
    rintro x H3 ⟨rfl, rfl⟩
    exact .inl ⟨rfl, .int _⟩
section
variable {X : Cx} {tg iter : Expr} {es : List Expr} {ga : Ax}
theorem tops_1 {φ F H} {vs : List V} {d : D} (h : Tops φ F H vs [d]) : ∃ v, vs = [v] ∧ Top φ F H v d := by
  cases h with
  | cons a t => cases t; exact ⟨_, rfl, a⟩
theorem tops_2 {φ F H} {vs : List V} {d e : D} (h : Tops φ F H vs [d, e]) : ∃ v u, vs = [v, u] ∧ Top φ F H v d ∧ Top φ F H u e := by
  cases h with
  | cons a t =>
    cases t with
    | cons b t => cases t; exact ⟨_, _, rfl, a, b⟩
theorem pxi_r1 (h : ∀ {t : TA}, PA X es t → PI X tg iter (iRng1 t)) (ha : PXA X es ga) : PXI X tg iter (iR1 ga) := fun c l => piOf (h (ha c l)) fun σ H R ⟨W, st, H1, Q0, hH, P, q, k⟩ => ⟨W, st, H1, _, hH, P, q, fun rs st1 vs W1 H2 q1 s1 P1 rvs => by
  obtain ⟨ds, e1, q1⟩ := opt_ex q1
  have t := P1.tops rvs e1
  split at q1
  · obtain ⟨v, rfl, t1⟩ := tops_1 t
    cases t1
    exact ⟨_, rfl, q1.1.1, q1.1.2, k _ _ _ _ _ q1.2 s1 P1 (goes_r _ _)⟩
  · exact q1.elim⟩
theorem pxi_r2 (h : ∀ {t : TA}, PA X es t → PI X tg iter (iRng2 t)) (ha : PXA X es ga) : PXI X tg iter (iR2 ga) := fun c l => piOf (h (ha c l)) fun σ H R ⟨W, st, H1, Q0, hH, P, q, k⟩ => ⟨W, st, H1, _, hH, P, q, fun rs st1 vs W1 H2 q1 s1 P1 rvs => by
  obtain ⟨ds, e1, q1⟩ := opt_ex q1
  have t := P1.tops rvs e1
  split at q1
  · obtain ⟨v, u, rfl, t1, t2⟩ := tops_2 t
    cases t1
    cases t2
    exact ⟨_, _, rfl, q1.1, k _ _ _ _ _ q1.2 s1 P1 (goes_r _ _)⟩
  · exact q1.elim⟩
def enumD : Nat → List D → List D
  | _, [] => []
  | n, d :: ds => .tup [.int n, d] :: enumD (n + 1) ds
theorem enumD_get : ∀ {n i : Nat} {ds : List D} {d : D}, (enumD n ds)[i]? = some d → ∃ x, ds[i]? = some x ∧ d = .tup [.int ((n + i : Nat) : Int), x]
  | n, i, [], d, e => by simp [enumD] at e
  | n, 0, x :: ds, d, e => by
    have : D.tup [.int n, x] = d := by simpa [enumD] using e
    exact ⟨x, rfl, this.symm⟩
  | n, i + 1, x :: ds, d, e => by
    obtain ⟨y, h1, h2⟩ := enumD_get (n := n + 1) (i := i) (ds := ds) (d := d) (by simpa [enumD] using e)
    exact ⟨y, by simpa using h1, by rw [h2, show n + 1 + i = n + (i + 1) by omega]⟩
theorem enumD_length : ∀ {n : Nat} {ds : List D}, (enumD n ds).length = ds.length
  | _, [] => rfl
  | n, d :: ds => congrArg (· + 1) (enumD_length (n := n + 1) (ds := ds))
def iEn (g : Ax) : Ix := fun E st Q => g E st fun rs st1 => opt (frzs st1 rs) fun q => match q.1 with
  | [.lst ds] => Q (enumD 0 ds) q.2
  | _ => False
theorem lnone_of {c : C0} {W : Wd} {st : Ps} {σ : L2.St} {H : Hp} (P : Pre c W st σ H) {T : Addr} (h : lockH W.L H T = none) : H T = none ∧ W.L.lookup T = none := P.lnone' h
theorem pxi_en (h : ∀ {t : TA}, PA X es t → PI X tg iter (iEnum X.K t)) (ha : PXA X es ga) : PXI X tg iter (iEn ga) := fun c l => piOf (h (ha c l)) fun σ H R ⟨W, st, H1, Q0, hH, P, q, k⟩ => ⟨W, st, H1, _, hH, P, q, fun rs st1 vs W1 H2 q1 s1 P1 rvs => by
  obtain ⟨⟨ds, st2⟩, e1, q1⟩ := opt_ex q1
  obtain ⟨W2, s2, P2, r2, eL⟩ := frzs_ok P1 e1 rvs
  rw [← eL]
  dsimp only at q1 r2 P2
  split at q1
  · rename_i xs
    cases r2 with
    | cons r t =>
      cases t
      cases r with
      | lst h1 h2 h3 =>
        refine ⟨_, _, rfl, SqL.of (P2.nol h2 rfl), k _ _ _ _ _ q1 (s1.trans s2) P2 fun Z W3 st3 σ3 H3 P3 a3 => ?_⟩
        have h4 := SqL.of (K := X.K) (P3.nol (a3.fut.keep _ _ h1 h2) rfl)
        refine ⟨fun i d e => ?_, fun i hi => ⟨_, h4, by rw [h3.length]; rw [enumD_length] at hi; exact hi⟩⟩
        obtain ⟨x, ex, rfl⟩ := enumD_get e
        obtain ⟨v, ev, rv⟩ := (h3.fut a3.fut).get ex
        refine ⟨⟨_, v, h4, ev⟩, ?_⟩
        rintro y H5 ⟨T, z, rfl, hT, rfl, hz⟩
        have := hz _ h4
        rw [ev] at this
        cases this
        obtain ⟨t1, t2⟩ := lnone_of P3 hT
        exact .inr ⟨T, _, _, rfl, t1, t2, rfl, rfl, .cons (by rw [Nat.zero_add]; exact .int _) (.cons rv .nil)⟩
  · exact q1.elim⟩
def zipD : List D → List D → List D
  | a :: as, b :: bs => .tup [a, b] :: zipD as bs
  | _, _ => []
theorem zipD_get : ∀ {i : Nat} {as bs : List D} {d : D}, (zipD as bs)[i]? = some d → ∃ x y, as[i]? = some x ∧ bs[i]? = some y ∧ d = .tup [x, y]
  | i, [], bs, d, e => by simp [zipD] at e
  | i, a :: as, [], d, e => by simp [zipD] at e
  | 0, a :: as, b :: bs, d, e => by
    have : D.tup [a, b] = d := by simpa [zipD] using e
    exact ⟨a, b, rfl, rfl, this.symm⟩
  | i + 1, a :: as, b :: bs, d, e => by
    obtain ⟨x, y, h1, h2, h3⟩ := zipD_get (i := i) (as := as) (bs := bs) (d := d) (by simpa [zipD] using e)
    exact ⟨x, y, by simpa using h1, by simpa using h2, h3⟩
theorem zipD_end : ∀ {i : Nat} {as bs : List D}, (zipD as bs).length ≤ i → as.length ≤ i ∨ bs.length ≤ i
  | i, [], bs, h => .inl (Nat.zero_le _)
  | i, a :: as, [], h => .inr (Nat.zero_le _)
  | 0, a :: as, b :: bs, h => by simp [zipD] at h
  | i + 1, a :: as, b :: bs, h => by
    have := zipD_end (i := i) (as := as) (bs := bs) (by simpa [zipD] using h)
    simpa using this
def iZp (g : Ax) : Ix := fun E st Q => g E st fun rs st1 => opt (frzs st1 rs) fun q => match q.1 with
  | [.lst as, .lst bs] => Q (zipD as bs) q.2
  | [.tup as, .tup bs] => Q (zipD as bs) q.2
  | _ => False
theorem pxi_zp (h : ∀ {t : TA}, PA X es t → PI X tg iter (RZ.iZipA X.K t)) (ha : PXA X es ga) : PXI X tg iter (iZp ga) := fun c l => piOf (h (ha c l)) fun σ H R ⟨W, st, H1, Q0, hH, P, q, k⟩ => ⟨W, st, H1, _, hH, P, q, fun rs st1 vs W1 H2 q1 s1 P1 rvs => by
  obtain ⟨⟨ds, st2⟩, e1, q1⟩ := opt_ex q1
  obtain ⟨W2, s2, P2, r2, eL⟩ := frzs_ok P1 e1 rvs
  rw [← eL]
  dsimp only at q1 r2 P2
  split at q1
  · cases r2 with
    | cons r t =>
      cases t with
      | cons r' t =>
        cases t
        cases r with
        | lst h1 h2 h3 =>
          cases r' with
          | lst g1 g2 g3 =>
            refine ⟨_, _, _, _, rfl, .inl ⟨SqL.of (P2.nol h2 rfl), SqL.of (P2.nol g2 rfl), k _ _ _ _ _ q1 (s1.trans s2) P2 fun Z W3 st3 σ3 H3 P3 a3 => ?_⟩⟩
            have h4 := SqL.of (K := X.K) (P3.nol (a3.fut.keep _ _ h1 h2) rfl)
            have g4 := SqL.of (K := X.K) (P3.nol (a3.fut.keep _ _ g1 g2) rfl)
            refine ⟨fun i d e => ?_, fun i hi => ⟨_, _, h4, g4, by rw [h3.length, g3.length]; exact zipD_end hi⟩⟩
            obtain ⟨x, y, ex, ey, rfl⟩ := zipD_get e
            obtain ⟨v, ev, rv⟩ := (h3.fut a3.fut).get ex
            obtain ⟨u, eu, ru⟩ := (g3.fut a3.fut).get ey
            refine ⟨⟨_, _, v, u, h4, g4, ev, eu⟩, ?_⟩
            rintro z H5 ⟨T, z1, z2, rfl, hT, rfl, hz1, hz2⟩
            have e1 := hz1 _ h4
            have e2 := hz2 _ g4
            rw [ev] at e1
            rw [eu] at e2
            cases e1
            cases e2
            obtain ⟨t1, t2⟩ := lnone_of P3 hT
            exact .inr ⟨T, _, _, rfl, t1, t2, rfl, rfl, .cons rv (.cons ru .nil)⟩
  · cases r2 with
    | cons r t =>
      cases t with
      | cons r' t =>
        cases t
        cases r with
        | tup h2 h3 =>
          cases r' with
          | tup g2 g3 =>
            refine ⟨_, _, _, _, rfl, .inr ⟨SqT.of (P2.nol h2 rfl), SqT.of (P2.nol g2 rfl), k _ _ _ _ _ q1 (s1.trans s2) P2 fun Z W3 st3 σ3 H3 P3 a3 => ?_⟩⟩
            have h4 := SqT.of (K := X.K) (P3.nol (a3.fut.tups _ _ h2) rfl)
            have g4 := SqT.of (K := X.K) (P3.nol (a3.fut.tups _ _ g2) rfl)
            refine ⟨fun i d e => ?_, fun i hi => ⟨_, _, h4, g4, by rw [h3.length, g3.length]; exact zipD_end hi⟩⟩
            obtain ⟨x, y, ex, ey, rfl⟩ := zipD_get e
            obtain ⟨v, ev, rv⟩ := (h3.fut a3.fut).get ex
            obtain ⟨u, eu, ru⟩ := (g3.fut a3.fut).get ey
            refine ⟨⟨_, _, v, u, h4, g4, ev, eu⟩, ?_⟩
            rintro z H5 ⟨T, z1, z2, rfl, hT, rfl, hz1, hz2⟩
            have e1 := hz1 _ h4
            have e2 := hz2 _ g4
            rw [ev] at e1
            rw [eu] at e2
            cases e1
            cases e2
            obtain ⟨t1, t2⟩ := lnone_of P3 hT
            exact .inr ⟨T, _, _, rfl, t1, t2, rfl, rfl, .cons rv (.cons ru .nil)⟩
  · exact q1.elim⟩
end

/-! ### comprehensions -/
def wipeO (ρ : List O) : List Nat → List O
  | [] => ρ
  | v :: vs => (wipeO ρ vs).set v .un
theorem wipeO_length (ρ : List O) : ∀ vs : List Nat, (wipeO ρ vs).length = ρ.length
  | [] => rfl
  | v :: vs => by unfold wipeO; rw [List.length_set, wipeO_length ρ vs]
theorem wipeO_get {ρ : List O} {i : Nat} {o : O} : ∀ {vs : List Nat}, (wipeO ρ vs)[i]? = some o → o = .un ∨ (ρ[i]? = some o ∧ i ∉ vs)
  | [], h => .inr ⟨h, List.not_mem_nil⟩
  | v :: vs, h => by
    unfold wipeO at h
    by_cases e : i = v
    · subst e
      rw [List.getElem?_set, if_pos rfl] at h
      split at h
      · cases h; exact .inl rfl
      · cases h
    · rw [List.getElem?_set_ne (Ne.symm e)] at h
      rcases wipeO_get h with z | ⟨z1, z2⟩
      · exact .inl z
      · exact .inr ⟨z1, fun y => (List.mem_cons.mp y).elim e z2⟩
theorem wipe_get {σ : L2.St} {i : Nat} : ∀ {vs : List Nat}, i ∉ vs → (wipe σ vs)[i]? = σ[i]?
  | [], _ => rfl
  | v :: vs, h => by
    rw [List.mem_cons, not_or] at h
    unfold wipe
    rw [List.getElem?_set_ne (Ne.symm h.1), wipe_get h.2]
abbrev Ps.wp (st : Ps) (vs : List Nat) : Ps := { st with ρ := wipeO st.ρ vs }
theorem Pre.wp {c c' : C0} {W : Wd} {st : Ps} {σ σ' : L2.St} {H : Hp} (P : Pre c W st σ H) {vs : List Nat} (e : wipe σ' vs = wipe σ vs) (h1 : c'.rw = c.rw) (h2 : c'.W0 = c.W0) (h3 : c'.H0 = c.H0) (h4 : ∀ a, c'.R a → c.R a) : Pre c' W (st.wp vs) σ' H := by
  have hg : ∀ i, i ∉ vs → σ'[i]? = σ[i]? := fun i n => by rw [← wipe_get (σ := σ') n, e, wipe_get n]
  have hlen : σ'.length = σ.length := by rw [← wipe_length σ' vs, e, wipe_length]
  have low : ∀ {i a}, slotOwns (wipeO st.ρ vs) σ' i a → slotOwns st.ρ σ i a := fun {i a} ⟨o, z1, z2, z3⟩ => by
    rcases wipeO_get z1 with rfl | ⟨y1, y2⟩
    · cases z2
    · exact ⟨o, y1, z2, by rw [← hg i y2]; exact z3⟩
  refine ⟨by rw [h1]; exact P.hrw, by rw [h1, h2, h3]; exact P.step, by rw [h2, h3]; exact P.new, by rw [h1]; exact P.base, by show (wipeO st.ρ vs).length = _; rw [wipeO_length, P.slen, hlen], fun i o z => ?_, fun i a z => by rw [h3]; exact P.sown i a (low z), fun i j a z y => P.sapart i j a (low z) (low y), fun a z => ?_, by rw [h1]; exact P.hvw, by rw [h2, h3]; exact P.own0⟩
  · rcases wipeO_get z with rfl | ⟨y1, y2⟩
    · exact trivial
    · rw [hg i y2]
      exact P.slot i o y1
  · obtain ⟨k1, k2, k3, k4⟩ := P.rsv a (h4 a z)
    exact ⟨k1, k2, k3, fun i y => k4 i (low y)⟩
/-- a reserved thing is changed -/
theorem Pre.mutR {c : C0} {W : Wd} {st : Ps} {σ : L2.St} {H : Hp} (P : Pre c W st σ H) {a : Addr} {u u' : HO} (hR : c.R a) (h0 : c.H0 a = none) (hu : H a = some u) (hm : mutO u = true) : Pre c W st σ (upd H a u') ∧ Fut W.φ W.F H W.φ W.F (upd H a u') := by
  obtain ⟨k1, k2, _, k4⟩ := P.rsv a hR
  have f := fut_mut W (u' := u') k1 hu hm
  have ne : ∀ {b : Addr} {o : HO}, c.H0 b = some o → b ≠ a := fun e z => by rw [z, h0] at e; cases e
  refine ⟨⟨P.hrw, ⟨P.step.cells, P.step.sub, fun b ob e n => by rw [upd_ne (ne e)]; exact P.step.keep b ob e n, fun b xs e => by rw [upd_ne (ne e)]; exact P.step.tups b xs e, fun b e => upd_dom (P.step.dom b e), P.step.ownNew, P.step.locks, P.step.ownOld⟩, P.new, ⟨fun b hb => ?_, P.base.len, fun n b x w q1 q2 q3 => ?_, P.base.apart, P.base.ownF, P.base.lN, fun b ob e => ?_⟩, P.slen, fun j x e => ?_, P.sown, P.sapart, fun b hb => ?_, P.hvw, P.own0⟩, f⟩
  · obtain ⟨w, q⟩ := P.base.fdom b hb
    exact ⟨w, f.keep b w hb q⟩
  · refine (P.base.cell n b x w q1 q2 q3).fut f fun y hy => ?_
    rw [upd_ne]
    intro z
    subst z
    exact k2 ⟨w, List.mem_of_getElem? q3, hy⟩
  · obtain ⟨q1, w, q2, q3⟩ := P.base.lF b ob e
    refine ⟨q1, w, ?_, q3⟩
    rw [upd_ne (fun z => by subst z; exact q1.elim k1 fun y => k2 y.2)]
    exact q2
  · refine (P.slot j x e).fut f fun b e1 e2 => ?_
    rw [upd_ne]
    intro z
    subst z
    exact k4 j ⟨x, e, e2, join_ref e1⟩
  · obtain ⟨q1, q2, ⟨w, q3⟩, q4⟩ := P.rsv b hb
    refine ⟨q1, q2, ?_, q4⟩
    by_cases z : b = a
    · rw [z]; exact ⟨_, upd_same⟩
    · exact ⟨w, by rw [upd_ne z]; exact q3⟩
abbrev E0k : EK := fun _ _ _ => False
/-- inside a comprehension: no error leaves it, the new list is reserved -/
def C0.blk (c : C0) (D : Addr) : C0 := { c with E := E0k, R := fun b => c.R b ∨ b = D }
theorem lk_blk {X : Cx} (c : C0) (D : Addr) : Lk X (c.blk D) := Takes.imp takes0 fun cls d σ H ⟨W, st, H1, C, fs, _, _, _, _, z⟩ => z.elim
def PXTs (X : Cx) (ifs : List Expr) (f : Tx) : Prop := ∀ c, Lk X c → PTs X ifs (tXT c f)
def xYes : Tx := fun _ st Q => Q true st
theorem ptsOf {X : Cx} {ifs : List Expr} {t t' : TT} (h : PTs X ifs t) (m : ∀ σ H Q, t' σ H Q → t σ H Q) : PTs X ifs t' := ⟨fun pins s σ H Q I q => h.run pins s σ H Q I (m σ H Q q)⟩
theorem pxts_nil {X : Cx} : PXTs X [] xYes := fun c l => ptsOf pts_nil fun σ H Q ⟨W, st, H1, Q0, hH, P, q, k⟩ => by
  subst hH
  exact k _ _ _ _ q (.refl _ _ _) P
theorem pxts_one {X : Cx} {e : Expr} {t : Tx} (h : PXT X e t) : PXTs X [e] t := fun c l => pts_one (h c l)
def lcW (tg : Tg) (tt : Tx) (f : Ex) (vs : List Nat) (Q : O → Ps → Prop) : List D → List D → Ps → Prop
  | [], acc, st => Q (.lst acc) (st.wp vs)
  | d :: ds, acc, st => tg d (st.wp vs) fun st2 => tt E0k st2 fun b st3 => if b = true then f E0k st3 fun r st4 => opt (frz st4 r) fun q => acc.length < sizeLine ∧ lcW tg tt f vs Q ds (acc ++ [q.1]) q.2 else lcW tg tt f vs Q ds acc st3
def xLc (fi : Ix) (tg : Tg) (tt : Tx) (f : Ex) (vs : List Nat) : Ox := fun E st Q => fi E st fun ds st1 => lcW tg tt f vs Q ds [] st1
theorem RepL.snoc {φ F H} {v : V} {d : D} : ∀ {vs : List V} {ds : List D}, RepL φ F H vs ds → Rep φ F H v d → RepL φ F H (vs ++ [v]) (ds ++ [d])
  | _, _, .nil, h => .cons h .nil
  | _, _, .cons a t, h => .cons a (t.snoc h)
theorem wipeO_un {ρ : List O} {i : Nat} {o : O} : ∀ {vs : List Nat}, (wipeO ρ vs)[i]? = some o → i ∈ vs → o = .un := fun h m => (wipeO_get h).elim id fun z => absurd m z.2
theorem wipe_in {σ : L2.St} {vs : List Nat} : ∀ {us : List Nat}, (∀ i ∈ us, i ∈ vs) → wipe (wipe σ us) vs = wipe σ vs
  | [], _ => rfl
  | u :: us, h => by
    show wipe ((wipe σ us).set u none) vs = _
    rw [set_wipe (h u List.mem_cons_self)]
    exact wipe_in fun i hi => h i (List.mem_cons_of_mem _ hi)
theorem Pre.ctx {c c' : C0} {W : Wd} {st : Ps} {σ : L2.St} {H : Hp} (P : Pre c W st σ H) (h1 : c'.rw = c.rw) (h2 : c'.W0 = c.W0) (h3 : c'.H0 = c.H0) (h4 : ∀ a, c'.R a → c.R a) : Pre c' W st σ H := P.wp (vs := []) rfl h1 h2 h3 h4
theorem Pre.sig {c : C0} {W : Wd} {st : Ps} {σ σ' : L2.St} {H : Hp} {vs : List Nat} (P : Pre c W (st.wp vs) σ H) (e : wipe σ' vs = wipe σ vs) : Pre c W (st.wp vs) σ' H := by
  have hg : ∀ i, i ∉ vs → σ'[i]? = σ[i]? := fun i n => by rw [← wipe_get (σ := σ') n, e, wipe_get n]
  have hlen : σ'.length = σ.length := by rw [← wipe_length σ' vs, e, wipe_length]
  have low : ∀ {i a}, slotOwns (wipeO st.ρ vs) σ' i a → slotOwns (wipeO st.ρ vs) σ i a := fun {i a} ⟨o, z1, z2, z3⟩ => by
    by_cases m : i ∈ vs
    · rw [wipeO_un z1 m] at z2
      cases z2
    · exact ⟨o, z1, z2, by rw [← hg i m]; exact z3⟩
  refine ⟨P.hrw, P.step, P.new, P.base, by rw [hlen]; exact P.slen, fun i o z => ?_, fun i a z => P.sown i a (low z), fun i j a z y => P.sapart i j a (low z) (low y), fun a z => ?_, P.hvw, P.own0⟩
  · by_cases m : i ∈ vs
    · rw [wipeO_un z m]
      exact trivial
    · rw [hg i m]
      exact P.slot i o z
  · obtain ⟨k1, k2, k3, k4⟩ := P.rsv a z
    exact ⟨k1, k2, k3, fun i y => k4 i (low y)⟩
theorem Step.updN {rw : Bool} {W W' : Wd} {H H' : Hp} {D : Addr} {o : HO} (s : Step rw W H W' H') (h : H D = none) : Step rw W H W' (upd H' D o) :=
  ⟨s.cells, s.sub, fun a u e n => by rw [upd_ne (ne_of_none e h)]; exact s.keep a u e n, fun a xs e => by rw [upd_ne (ne_of_none e h)]; exact s.tups a xs e, fun a e => upd_dom (s.dom a e), s.ownNew, s.locks, s.ownOld⟩
def gAny (c : C0) (tg : Tg) (is : List Nat) : TG := fun v σ H Q => ∃ D, tXG (c.blk D) tg is v σ H Q
def tAny (c : C0) (tt : Tx) : TT := fun σ H Q => ∃ D, tXT (c.blk D) tt σ H Q
def eAny (c : C0) (f : Ex) : TE := fun σ H Q => ∃ D, tX (c.blk D) f σ H Q
theorem blk_at {c : C0} {D : Addr} {W W' : Wd} {st : Ps} {σ : L2.St} {H H' : Hp} {o : HO} (P : Pre (c.blk D) W st σ H) (s : Step c.rw W H W' H') (h : H D = some o) : H' D = some o := s.keep D o h fun _ => (P.rsv D (.inr rfl)).2.1
theorem lc_go {c : C0} {fi : Ix} {tg : Tg} {tt : Tx} {f : Ex} {vs is : List Nat} {σ : L2.St} {H : Hp} {Q : VK} (hv : ∀ i ∈ is, i ∈ vs) (h : tO c (xLc fi tg tt f vs) σ H Q) : tLc (tXI c fi) (gAny c tg is) (tAny c tt) (eAny c f) vs σ H Q := by
  obtain ⟨W, st, H1, Q0, hH, P, q, k⟩ := h
  refine ⟨W, st, H1, _, hH, P, q, fun ds st1 W1 H2 J q1 s1 P1 go => fun D hD => ?_⟩
  obtain ⟨d1, d2⟩ := P1.lnone' hD
  obtain ⟨sD, PD, f1, f2, f3, f4, f5⟩ := P1.fresh (o := .lst []) d1
  have PB : Pre (c.blk D) W1 (st1.wp vs) σ (upd H2 D (.lst [])) := (PD.res ⟨f1, f2, ⟨_, upd_same⟩, f4⟩).wp rfl rfl rfl rfl fun _ z => z
  refine ⟨fun i m Hh => m = ds.length - i ∧ i ≤ ds.length ∧ ∃ W2 st2 H3 acc xs, Hh = lockH W2.L H3 ∧ Pre (c.blk D) W2 (st2.wp vs) σ H3 ∧ Step c.rw W1 H2 W2 H3 ∧ H3 D = some (.lst xs) ∧ RepL W2.φ W2.F H3 xs acc ∧ lcW tg tt f vs Q0 (ds.drop i) acc st2,
    ⟨ds.length, by simp, Nat.zero_le _, W1, st1, _, [], [], lock_upd d2, PB, sD, upd_same, .nil, q1⟩, ?_⟩
  rintro i m Hh ⟨rfl, hi, W2, st2, H3, acc, xs, rfl, P2, s2, hx, rx, q2⟩
  obtain ⟨g1, g2⟩ := go (c.blk D).R W2 _ σ H3 (P2.ctx rfl rfl rfl fun _ z => z) (P1.aft s2)
  by_cases hlt : i < ds.length
  · obtain ⟨g3, g4⟩ := g1 i ds[i] (List.getElem?_eq_getElem hlt)
    rw [List.drop_eq_getElem_cons hlt] at q2
    refine .inr ⟨g3, fun H' => i + 1 ≤ ds.length ∧ ∃ W2 st2 H3 acc xs, H' = lockH W2.L H3 ∧ Pre (c.blk D) W2 (st2.wp vs) σ H3 ∧ Step c.rw W1 H2 W2 H3 ∧ H3 D = some (.lst xs) ∧ RepL W2.φ W2.F H3 xs acc ∧ lcW tg tt f vs Q0 (ds.drop (i + 1)) acc st2, fun H' z => ⟨ds.length - (i + 1), by omega, rfl, z⟩, fun x H' y => ?_⟩
    obtain ⟨H4, rfl, s4, P4, r4⟩ := YD.ok P2 (g4 x H' y)
    have x4 := blk_at P2 s4 hx
    refine ⟨D, W2, st2.wp vs, H4, _, _, rfl, P4.sig (wipe_in fun _ z => z), r4, q2, fun st5 σ5 q5 P5 w5 => ?_⟩
    have e5 : wipe σ5 vs = wipe σ vs := (w5 vs hv).trans (wipe_in fun _ z => z)
    refine ⟨e5, D, W2, st5, H4, _, rfl, P5, q5, fun b st6 W6 H6 q6 s6 P6 => ?_⟩
    have x6 := blk_at P5 s6 x4
    have r6 : RepL W6.φ W6.F H6 xs acc := (rx.fut (P2.fut s4)).fut (P5.fut s6)
    cases b with
    | false => exact iteF ⟨hlt, W6, st6, H6, acc, xs, rfl, P6.wp e5.symm rfl rfl rfl fun _ z => z, (s2.trans s4).trans s6, x6, r6, q6⟩
    | true =>
      refine iteT ⟨D, W6, st6, H6, _, rfl, P6, q6, fun r st7 v W7 H7 q7 s7 P7 rv => ?_⟩
      obtain ⟨⟨y, st8⟩, e8, hl, q8⟩ := opt_ex q7
      obtain ⟨W8, s8, P8, r8, eL⟩ := frz_ok P7 e8 rv
      have x7 := blk_at P6 s7 x6
      have r7 : RepL W8.φ W8.F H7 xs acc := (r6.fut (P6.fut s7)).fut (P7.fut s8)
      obtain ⟨P9, f9⟩ := P8.mutR (u' := .lst (xs ++ [v])) (.inr rfl) f3 x7 rfl
      refine ⟨xs, P7.nol x7 rfl, by rw [rx.length]; exact hl, hlt, W8, st8, upd H7 D (.lst (xs ++ [v])), acc ++ [y], xs ++ [v], ?_, P9.wp e5.symm rfl rfl rfl fun _ z => z, ((((s2.trans s4).trans s6).trans s7).trans s8).updN d1, upd_same, (r7.fut f9).snoc (r8.fut f9), q8⟩
      rw [← eL]
      exact lock_upd (P8.lown (P8.rsv D (.inr rfl)).1 (P8.rsv D (.inr rfl)).2.1)
  · have e : i = ds.length := by omega
    rw [e, List.drop_length] at q2
    obtain ⟨k1, k2, k3, k4⟩ := P2.rsv D (.inr rfl)
    exact .inl ⟨g2 i (by omega), k _ _ _ _ _ q2 (s1.trans s2) (P2.ctx rfl rfl rfl fun _ z => .inl z) ⟨D, rfl, ⟨xs, hx, rx⟩, k1, k2, f3, k4, f5⟩⟩
theorem PG.orr {X : Cx} {e : Expr} {α : Type} {t : α → TG} (h : ∀ x, PG X e (t x)) : PG X e (fun v σ H Q => ∃ x, t x v σ H Q) := ⟨fun pins s σ H v u Q I r ⟨x, q⟩ => (h x).run pins s σ H v u Q I r q⟩
theorem PTs.orr {X : Cx} {es : List Expr} {α : Type} {t : α → TT} (h : ∀ x, PTs X es (t x)) : PTs X es (fun σ H Q => ∃ x, t x σ H Q) := ⟨fun pins s σ H Q I ⟨x, q⟩ => (h x).run pins s σ H Q I q⟩
theorem PE.orr {X : Cx} {e : Expr} {α : Type} {t : α → TE} (h : ∀ x, PE X e (t x)) : PE X e (fun σ H Q => ∃ x, t x σ H Q) := ⟨fun pins s σ H Q I ⟨x, q⟩ => (h x).run pins s σ H Q I q⟩
theorem pg_any {X : Cx} {e : Expr} {tg : Tg} {is : List Nat} (c : C0) (h : PXG X e tg is) : PG X e (gAny c tg is) := PG.orr fun D => h _ (lk_blk c D)
theorem pts_any {X : Cx} {es : List Expr} {tt : Tx} (c : C0) (h : PXTs X es tt) : PTs X es (tAny c tt) := PTs.orr fun D => h _ (lk_blk c D)
theorem pe_any {X : Cx} {e : Expr} {f : Ex} (c : C0) (h : PX X e f) : PE X e (eAny c f) := PE.orr fun D => h _ (lk_blk c D)
theorem po_lc {X : Cx} {elt tge iter : Expr} {ifs : List Expr} {scope : Scope} {own : List (Str × Nat)} {pos : Pos} {fi : Ix} {tg : Tg} {is : List Nat} {tt : Tx} {f : Ex} (hc : X.calm = true) (hN : X.N.Nodup) (hi : PXI X tge iter fi) (ok : BlkOk X.N X.env.scope scope own) (hv : ∀ i ∈ is, i ∈ own.map (·.2))
    (hg : ∀ (s : Shared) (H : Hp) (C : Addr) (cl : List (Str × Addr)) (fp : List Addr), PXG (X.blk s H scope (compEnvC scope cl C X.env) fp) tge tg is) (ht : ∀ (s : Shared) (H : Hp) (C : Addr) (cl : List (Str × Addr)) (fp : List Addr), PXTs (X.blk s H scope (compEnvC scope cl C X.env) fp) ifs tt)
    (he : ∀ (s : Shared) (H : Hp) (C : Addr) (cl : List (Str × Addr)) (fp : List Addr), PX (X.blk s H scope (compEnvC scope cl C X.env) fp) elt f) (hs : ∀ x, foldedSetIterable iter X.env x = pure x := by intro _; rfl) :
    PO X (.ListComp elt [⟨tge, iter, ifs, 0⟩] scope pos) (xLc fi tg tt f (own.map (·.2))) := fun c l =>
  peOf (pe_lc hc hN (hi c l) ok (fun s H C cl fp => pg_any c (hg s H C cl fp)) (fun s H C cl fp => pts_any c (ht s H C cl fp)) (fun s H C cl fp => pe_any c (he s H C cl fp)) hs) fun σ H Q h => lc_go hv h
theorem pxs_setLc {X : Cx} {i : Nat} {elt tge iter : Expr} {ifs : List Expr} {vs : List Nat} {s : Stmt} {fi : Ix} {tg : Tg} {is : List Nat} {tt : Tx} {f : Ex} (hv : ∀ i ∈ is, i ∈ vs) (hi : PXI X tge iter fi)
    (h : ∀ (c : C0), PI X tge iter (tXI c fi) → PS X s (tAsg (tLc (tXI c fi) (gAny c tg is) (tAny c tt) (eAny c f) vs) (gName i))) : PXS X s (sSet i (xLc fi tg tt f vs)) := fun c l => psOf (h c (hi c l)) fun D σ H ⟨W, st, H1, K, hH, P, ek, q⟩ =>
  lc_go hv ⟨W, st, H1, _, hH, P, q, fun o st' v W' H2 q0 s P' ov => by
    obtain ⟨W3, s3, P3, r, eL⟩ := OV.plain P' ov
    show D.nx _ (lockH W'.L H2)
    rw [← eL]
    exact ek.1 _ _ _ _ q0 (P3.set i r) (P.aft (s.trans s3))⟩
theorem pxs_setLcO {X : Cx} {i : Nat} {elt tge iter : Expr} {ifs : List Expr} {vs : List Nat} {s : Stmt} {fi : Ix} {tg : Tg} {is : List Nat} {tt : Tx} {f : Ex} (hv : ∀ i ∈ is, i ∈ vs) (hi : PXI X tge iter fi)
    (h : ∀ (c : C0), PI X tge iter (tXI c fi) → PS X s (tAsg (tLc (tXI c fi) (gAny c tg is) (tAny c tt) (eAny c f) vs) (gName i))) : PXS X s (sSetO i (xLc fi tg tt f vs)) := fun c l => psOf (h c (hi c l)) fun D σ H ⟨W, st, H1, K, hH, P, ek, q⟩ =>
  lc_go hv ⟨W, st, H1, _, hH, P, q, fun o st' v W' H2 q0 s P' ov => ek.1 _ _ _ _ q0 (OV.set P' i ov) (P.aft s)⟩
end Q
namespace Q
open PySem L2 PySem.Spec PyProof.Rows
section
variable {X : Cx}
/-! ### len -/
theorem call_lenR : CallR X (.builtin "len") (fun xs H Q => ∃ a kvs, xs = [.ref a] ∧ Rd H a (.dK kvs) ∧ Q (.int (kvs.length : Nat)) H) := by
  intro pins s σ H xs us Q I r h
  obtain ⟨a, kvs, rfl, ha, q⟩ := h
  obtain ⟨u, rfl, ru⟩ := vals1 r
  cases ru
  exact d_len I ha fun t s' I' => ⟨.int kvs.length, H, I', ⟨t, rfl⟩, q⟩
theorem call_lenRT : CallR X (.builtin "len") (fun xs H Q => ∃ a kvs, xs = [.ref a] ∧ Rd H a (.dT kvs) ∧ Q (.int (kvs.length : Nat)) H) := by
  intro pins s σ H xs us Q I r h
  obtain ⟨a, kvs, rfl, ha, q⟩ := h
  obtain ⟨u, rfl, ru⟩ := vals1 r
  cases ru
  obtain ⟨z, hd, ys, rel, dd⟩ := dt_rd I.hok ha
  have hl : kvs.length = ys.length := Paired.length rel
  refine call_len_dictH hd dd (by rw [← hl]; rw [sizeLine_eq] at z; omega) ?_
  rw [← hl]
  exact ⟨.int ((kvs.length : Nat) : Int), H, I.tok _, ⟨_, rfl⟩, q⟩
def rLenA (K : PySem.W.Frag) : List V → Hp → VK → Prop := fun xs H Q => (∃ x n, xs = [x] ∧ LenV K x H n ∧ Q (.int (n : Nat)) H) ∨ (∃ a kvs, xs = [.ref a] ∧ Rd H a (.dK kvs) ∧ Q (.int (kvs.length : Nat)) H) ∨ ∃ a kvs, xs = [.ref a] ∧ Rd H a (.dT kvs) ∧ Q (.int (kvs.length : Nat)) H
theorem cLen (K : PySem.W.Frag) (h : X.K = K := by rfl) : CallR X (.builtin "len") (rLenA K) := by
  subst h
  exact call_len.or (call_lenR.or call_lenRT)
def lenG : Gc := fun ds J => match ds with
  | [.str s] => s.length ≤ sizeLine ∧ J (.d (.int s.length))
  | [.lst xs] => J (.d (.int xs.length))
  | [.tup xs] => J (.d (.int xs.length))
  | [.dK xs] => J (.d (.int xs.length))
  | [.dT xs] => J (.d (.int xs.length))
  | [.scr xs] => J (.d (.int xs.length))
  | _ => False
theorem rd_lock {c : C0} {W : Wd} {st : Ps} {σ : L2.St} {H : Hp} (P : Pre c W st σ H) {a : Addr} {u : HO} (h : Rd H a u) (hd : dictO u = false) : Rd (lockH W.L H) a u := by
  rcases h with h | ⟨o, h⟩
  · exact .inl (P.nol h hd)
  · exact .inr ⟨o, P.nol h rfl⟩
theorem g_len (K : PySem.W.Frag) : CallG (rLenA K) lenG := fun c W st σ H vs ds Q J P t g k => by
  unfold lenG at g
  split at g
  · obtain ⟨v, rfl, t1⟩ := tops_1 t
    cases t1
    exact .inl ⟨_, _, rfl, ⟨g.1, rfl⟩, (k _ g.2).d P (.int _)⟩
  · obtain ⟨v, rfl, t1⟩ := tops_1 t
    cases t1 with
    | lst h1 r1 => exact .inl ⟨_, _, rfl, .inl ⟨_, SqL.of (P.nol h1 rfl), r1.length.symm⟩, (k _ g).d P (.int _)⟩
  · obtain ⟨v, rfl, t1⟩ := tops_1 t
    cases t1 with
    | tup h1 r1 => exact .inl ⟨_, _, rfl, .inr ⟨_, SqT.of (P.nol h1 rfl), r1.length.symm⟩, (k _ g).d P (.int _)⟩
  · obtain ⟨v, rfl, t1⟩ := tops_1 t
    cases t1 with
    | dK h1 r1 => exact .inr (.inl ⟨_, _, rfl, lock_rd h1, by rw [r1.length]; exact (k _ g).d P (.int _)⟩)
  · obtain ⟨v, rfl, t1⟩ := tops_1 t
    cases t1 with
    | dT h1 r1 => exact .inr (.inr ⟨_, _, rfl, lock_rd h1, by rw [r1.length]; exact (k _ g).d P (.int _)⟩)
  · obtain ⟨v, rfl, t1⟩ := tops_1 t
    cases t1 with
    | scr h1 => exact .inl ⟨_, _, rfl, .inl ⟨_, .inl (rd_lock P h1 rfl), by rw [List.length_map]⟩, (k _ g).d P (.int _)⟩
  · exact g.elim
/-! ### list(..), tuple(..) of a list or a tuple -/
def listG : Gc := fun ds J => match ds with
  | [.lst xs] => J (.lst xs)
  | [.tup xs] => J (.lst xs)
  | _ => False
theorem g_list (K : PySem.W.Frag) : CallG (rListQ K) listG := fun c W st σ H vs ds Q J P t g k => by
  unfold listG at g
  split at g
  · obtain ⟨v, rfl, t1⟩ := tops_1 t
    cases t1 with
    | lst h1 r1 => exact ⟨_, _, rfl, .inl (SqL.of (P.nol h1 rfl)), (k _ g).new P rfl fun p hp => ⟨_, upd_same, r1.fut (fut_new W hp)⟩⟩
  · obtain ⟨v, rfl, t1⟩ := tops_1 t
    cases t1 with
    | tup h1 r1 => exact ⟨_, _, rfl, .inr (SqT.of (P.nol h1 rfl)), (k _ g).new P rfl fun p hp => ⟨_, upd_same, r1.fut (fut_new W hp)⟩⟩
  · exact g.elim
def tupleG : Gc := fun ds J => match ds with
  | [.lst xs] => J (.d (.tup xs))
  | [.tup xs] => J (.d (.tup xs))
  | _ => False
theorem g_tuple (K : PySem.W.Frag) : CallG (rTupleQ K) tupleG := fun c W st σ H vs ds Q J P t g k => by
  unfold tupleG at g
  split at g
  · obtain ⟨v, rfl, t1⟩ := tops_1 t
    cases t1 with
    | lst h1 r1 => exact ⟨_, _, rfl, .inl ⟨SqL.of (P.nol h1 rfl), (k _ g).newT P r1⟩⟩
  · obtain ⟨v, rfl, t1⟩ := tops_1 t
    cases t1 with
    | tup h1 r1 => exact ⟨_, _, rfl, .inr ⟨SqT.of (P.nol h1 rfl), (k _ g).d P (.tup h1 r1)⟩⟩
  · exact g.elim
/-! ### all, any, sum -/
def blsD : List D → Option (List Bool)
  | [] => some []
  | .bl b :: ds => match blsD ds with
    | some bs => some (b :: bs)
    | none => none
  | _ => none
theorem bls_rep {φ F H} : ∀ {ds : List D} {vs : List V} {bs : List Bool}, RepL φ F H vs ds → blsD ds = some bs → vs = bs.map V.bl
  | [], _, _, h, e => by cases h; cases e; rfl
  | d :: ds, _, bs, h, e => by
    cases h with
    | cons h1 h2 =>
      cases d with
      | bl b =>
        unfold blsD at e
        cases q : blsD ds with
        | none => rw [q] at e; cases e
        | some bs' =>
          rw [q] at e
          cases e
          cases h1
          rw [bls_rep h2 q]
          rfl
      | _ => cases e
def allG : Gc := fun ds J => match ds with
  | [.lst xs] => opt (blsD xs) fun bs => J (.d (.bl (bs.all id)))
  | _ => False
def anyG : Gc := fun ds J => match ds with
  | [.lst xs] => opt (blsD xs) fun bs => J (.d (.bl (bs.any id)))
  | _ => False
theorem g_all (K : PySem.W.Frag) : CallG (rAll K) allG := fun c W st σ H vs ds Q J P t g k => by
  unfold allG at g
  split at g
  · obtain ⟨bs, e, g⟩ := opt_ex g
    obtain ⟨v, rfl, t1⟩ := tops_1 t
    cases t1 with
    | lst h1 r1 =>
      have := bls_rep r1 e
      subst this
      exact ⟨_, bs, rfl, SqL.of (P.nol h1 rfl), (k _ g).d P (.bl _)⟩
  · exact g.elim
theorem g_any (K : PySem.W.Frag) : CallG (rAny K) anyG := fun c W st σ H vs ds Q J P t g k => by
  unfold anyG at g
  split at g
  · obtain ⟨bs, e, g⟩ := opt_ex g
    obtain ⟨v, rfl, t1⟩ := tops_1 t
    cases t1 with
    | lst h1 r1 =>
      have := bls_rep r1 e
      subst this
      exact ⟨_, bs, rfl, SqL.of (P.nol h1 rfl), (k _ g).d P (.bl _)⟩
  · exact g.elim
def intsD : List D → Option (List Int)
  | [] => some []
  | .int b :: ds => match intsD ds with
    | some bs => some (b :: bs)
    | none => none
  | _ => none
theorem ints_rep {φ F H} : ∀ {ds : List D} {vs : List V} {bs : List Int}, RepL φ F H vs ds → intsD ds = some bs → vs = bs.map V.int
  | [], _, _, h, e => by cases h; cases e; rfl
  | d :: ds, _, bs, h, e => by
    cases h with
    | cons h1 h2 =>
      cases d with
      | int b =>
        unfold intsD at e
        cases q : intsD ds with
        | none => rw [q] at e; cases e
        | some bs' =>
          rw [q] at e
          cases e
          cases h1
          rw [ints_rep h2 q]
          rfl
      | _ => cases e
def sumG : Gc := fun ds J => match ds with
  | [.lst xs] => opt (intsD xs) fun ns => J (.d (.int ns.sum))
  | _ => False
theorem g_sum (K : PySem.W.Frag) : CallG (rSum K) sumG := fun c W st σ H vs ds Q J P t g k => by
  unfold sumG at g
  split at g
  · obtain ⟨bs, e, g⟩ := opt_ex g
    obtain ⟨v, rfl, t1⟩ := tops_1 t
    cases t1 with
    | lst h1 r1 =>
      have := ints_rep r1 e
      subst this
      exact ⟨_, bs, rfl, SqL.of (P.nol h1 rfl), (k _ g).d P (.int _)⟩
  · exact g.elim
/-! ### int(..), abs(..) -/
def intG : Gc := fun ds J => match ds with
  | [.int i] => J (.d (.int i))
  | [.bl b] => J (.d (.int (if b then 1 else 0)))
  | _ => False
theorem g_int : CallG (fun xs H Q => (∃ i, xs = [.int i] ∧ Q (.int i) H) ∨ ∃ k, xs = [.bl k] ∧ Q (.int (if k then 1 else 0)) H) intG := fun c W st σ H vs ds Q J P t g k => by
  unfold intG at g
  split at g
  · obtain ⟨v, rfl, t1⟩ := tops_1 t
    cases t1
    exact .inl ⟨_, rfl, (k _ g).d P (.int _)⟩
  · obtain ⟨v, rfl, t1⟩ := tops_1 t
    cases t1
    exact .inr ⟨_, rfl, (k _ g).d P (.int _)⟩
  · exact g.elim
/-! ### a[i] -/
def ixD : D → D → Option O
  | .lst xs, .int i => (atI xs i).map O.d
  | .tup xs, .int i => (atI xs i).map O.d
  | .str z, .int i => if z.length ≤ sizeLine then (atI z.cps.toList i).map fun c => .d (.str ⟨#[c]⟩) else none
  | _, _ => none
def rIxA (K : PySem.W.Frag) : V → V → Hp → VK → Prop := fun x y H Q => rIxL K x y H Q ∨ rIxT K x y H Q ∨ rIxS x y H Q
theorem ixA (K : PySem.W.Frag) (h : X.K = K := by rfl) : IxR X (rIxA K) := by
  subst h
  exact ix_list.or (ix_tup.or ix_str)
theorem RepL.at {φ F H} {vs : List V} {ds : List D} {i : Int} {d : D} (r : RepL φ F H vs ds) (e : atI ds i = some d) : ∃ v, atI vs i = some v ∧ Rep φ F H v d := by
  unfold atI at e ⊢
  rw [r.length]
  cases q : ixN ds.length i with
  | none => rw [q] at e; cases e
  | some j =>
    rw [q] at e
    exact r.get e
theorem g_ix (K : PySem.W.Frag) : OpG (rIxA K) ixD := fun c W st σ H v1 v2 d1 d2 o Q P t1 t2 e h => by
  unfold ixD at e
  split at e
  · cases t2
    cases t1 with
    | lst h1 r1 =>
      obtain ⟨d, e1, rfl⟩ := Option.map_eq_some_iff.mp e
      obtain ⟨v, e2, r2⟩ := r1.at e1
      exact .inl ⟨_, _, _, v, rfl, rfl, SqL.of (P.nol h1 rfl), e2, h.d P r2⟩
  · cases t2
    cases t1 with
    | tup h1 r1 =>
      obtain ⟨d, e1, rfl⟩ := Option.map_eq_some_iff.mp e
      obtain ⟨v, e2, r2⟩ := r1.at e1
      exact .inr (.inl ⟨_, _, _, v, rfl, rfl, SqT.of (P.nol h1 rfl), e2, h.d P r2⟩)
  · cases t1
    cases t2
    split at e
    · rename_i hl
      obtain ⟨d, e1, rfl⟩ := Option.map_eq_some_iff.mp e
      exact .inr (.inr ⟨_, _, d, rfl, rfl, hl, e1, h.d P (.str _)⟩)
    · cases e
  · cases e
/-! ### a[lo:hi] -/
abbrev Px := EK → Ps → (Option Int → Ps → Prop) → Prop
def pNo : Px := fun _ st Q => Q none st
def pSo (f : Ex) : Px := fun E st Q => f E st fun r st1 => match r with
  | .v (.int i) => Q (some i) st1
  | _ => False
def tXP (c : C0) (f : Px) : TO := fun σ H Q => ∃ W st H1 Q0, H = lockH W.L H1 ∧ Pre c W st σ H1 ∧ f c.E st Q0 ∧ ∀ i st' W' H2, Q0 i st' → Step c.rw W H1 W' H2 → Pre c W' st' σ H2 → Q i (lockH W'.L H2)
def PXP (X : Cx) (e : Option Expr) (f : Px) : Prop := ∀ c, Lk X c → L2.PO X e (tXP c f)
theorem poOf {e : Option Expr} {t t' : TO} (h : L2.PO X e t) (m : ∀ σ H Q, t' σ H Q → t σ H Q) : L2.PO X e t' := ⟨fun pins s σ H Q I q => h.run pins s σ H Q I (m σ H Q q)⟩
theorem pxp_no : PXP X none pNo := fun c l => poOf L2.po_none fun σ H Q ⟨W, st, H1, Q0, hH, P, q, k⟩ => by
  subst hH
  exact k _ _ _ _ q (.refl _ _ _) P
theorem pxp_so {e : Expr} {f : Ex} (h : PX X e f) : PXP X (some e) (pSo f) := fun c l => poOf (L2.po_some (h c l)) fun σ H Q ⟨W, st, H1, Q0, hH, P, q, k⟩ => ⟨W, st, H1, _, hH, P, q, fun r st1 v W1 H2 q1 s1 P1 rv => by
  split at q1
  · rename_i i
    have rv' : Rp W1 H2 v (.int i) := rv
    cases rv'
    exact ⟨i, rfl, k _ _ _ _ q1 s1 P1⟩
  · exact q1.elim⟩
def cutD {α : Type} (xs : List α) (lo hi : Option Int) : List α := (xs.drop (HT.sIx xs.length 0 lo)).take (HT.sIx xs.length xs.length hi - HT.sIx xs.length 0 lo)
def slD : D → Option Int → Option Int → Option O
  | .lst xs, lo, hi => some (.lst (cutD xs lo hi))
  | .tup xs, lo, hi => some (.d (.tup (cutD xs lo hi)))
  | _, _, _ => none
def rSlAny (K : PySem.W.Frag) : V → Option Int → Option Int → Hp → VK → Prop := fun x lo hi H Q => rSlL K x lo hi H Q ∨ rSlA K x lo hi H Q
theorem slA (K : PySem.W.Frag) (h : X.K = K := by rfl) : SlR X (rSlAny K) := by
  subst h
  exact sl_list.or sl_tupA
theorem RepL.drop {φ F H} : ∀ (n : Nat) {vs : List V} {ds : List D}, RepL φ F H vs ds → RepL φ F H (vs.drop n) (ds.drop n)
  | 0, _, _, h => h
  | n + 1, _, _, .nil => .nil
  | n + 1, _, _, .cons _ t => t.drop n
theorem RepL.take {φ F H} : ∀ (n : Nat) {vs : List V} {ds : List D}, RepL φ F H vs ds → RepL φ F H (vs.take n) (ds.take n)
  | 0, _, _, h => .nil
  | n + 1, _, _, .nil => .nil
  | n + 1, _, _, .cons h t => .cons h (t.take n)
theorem RepL.cut {φ F H} {vs : List V} {ds : List D} (r : RepL φ F H vs ds) (lo hi : Option Int) : RepL φ F H (cutV vs lo hi) (cutD ds lo hi) := by
  unfold cutV cutD
  rw [r.length]
  exact (r.drop _).take _
def xSl (f : Ex) (lo hi : Px) : Ox := fun E st Q => f E st fun r st1 => lo E st1 fun i st2 => hi E st2 fun j st3 => opt (look st3 r) fun d => opt (slD d i j) fun o => Q o st3
theorem po_sl {e ee : Expr} {lo hi : Option Expr} {f : Ex} {pl ph : Px} (K : PySem.W.Frag) (h : ∀ {te : TE} {tl th : TO}, PE X e te → L2.PO X lo tl → L2.PO X hi th → PE X ee (tSl (rSlAny K) te tl th)) (he : PX X e f) (hl : PXP X lo pl) (hh : PXP X hi ph) : PO X ee (xSl f pl ph) := fun c l => peOf (h (he c l) (hl c l) (hh c l)) fun σ H Q ⟨W, st, H1, Q0, hH, P, q, k⟩ =>
  ⟨W, st, H1, _, hH, P, q, fun r st1 v W1 H2 q1 s1 P1 rv => ⟨W1, st1, H2, _, rfl, P1, q1, fun i st2 W2 H3 q2 s2 P2 => ⟨W2, st2, H3, _, rfl, P2, q2, fun j st3 W3 H4 q3 s3 P3 => by
    obtain ⟨d, e1, q3⟩ := opt_ex q3
    obtain ⟨o, e2, q3⟩ := opt_ex q3
    have t := P3.top ((rv.step P1 s2).step P2 s3) e1
    have hk : Res c W3 st3 σ H4 o Q := fun v' W' H5 s5 P5 ov => k _ _ _ _ _ q3 (((s1.trans s2).trans s3).trans s5) P5 ov
    unfold slD at e2
    split at e2
    · cases e2
      cases t with
      | lst h1 r1 => exact .inl ⟨_, _, rfl, SqL.of (P3.nol h1 rfl), hk.new P3 rfl fun p hp => ⟨_, upd_same, (r1.cut i j).fut (fut_new W3 hp)⟩⟩
    · cases e2
      cases t with
      | tup h1 r1 =>
        refine .inr ⟨_, _, rfl, SqT.of (P3.nol h1 rfl), fun z => hk.d P3 (.tup h1 ?_), fun z => hk.newT P3 (r1.cut i j)⟩
        have := r1.cut i j
        unfold cutV at this
        rw [z.1, z.2, List.drop_zero, Nat.sub_zero, List.take_length] at this
        exact this
    · cases e2⟩⟩⟩
/-! ### a chain of two comparisons -/
def xCh (g g' : D → D → Option O) (f1 f2 f3 : Ex) : Ox := fun E st Q => f1 E st fun r1 st1 => f2 E st1 fun r2 st2 => opt (look st2 r1) fun d1 => opt (look st2 r2) fun d2 => opt (g d1 d2) fun o => opt (isB o) fun b => if b = true then f3 E st2 fun r3 st3 => opt (look st3 r2) fun d2' => opt (look st3 r3) fun d3 => opt (g' d2' d3) fun o' => Q o' st3 else Q (.d (.bl false)) st2
theorem chain_go {r r' : V → V → Hp → VK → Prop} {g g' : D → D → Option O} {f1 f2 f3 : Ex} (hr : OpG r g) (hr' : OpG r' g') {c : C0} {σ : L2.St} {H : Hp} {Q : VK} (h : tO c (xCh g g' f1 f2 f3) σ H Q) : tChain r r' (tX c f1) (tX c f2) (tX c f3) σ H Q := by
  obtain ⟨W, st, H1, Q0, hH, P, q, k⟩ := h
  refine ⟨W, st, H1, _, hH, P, q, fun r1 st1 v1 W1 H2 q1 s1 P1 rv1 => ⟨W1, st1, H2, _, rfl, P1, q1, fun r2 st2 v2 W2 H3 q2 s2 P2 rv2 => ?_⟩⟩
  obtain ⟨d1, e1, q2⟩ := opt_ex q2
  obtain ⟨d2, e2, q2⟩ := opt_ex q2
  obtain ⟨o, e3, q2⟩ := opt_ex q2
  obtain ⟨b, e4, q2⟩ := opt_ex q2
  refine hr c W2 st2 σ H3 v1 v2 d1 d2 o _ P2 (P2.top (rv1.step P1 s2) e1) (P2.top rv2 e2) e3 fun v W3 H4 s4 P4 ov => ⟨b, ov_bl ov e4, ?_⟩
  cases b with
  | false => exact iteF (k _ _ _ _ _ q2 ((s1.trans s2).trans s4) P4 (.bl false : Rp W3 H4 _ (.bl false)))
  | true =>
    refine iteT ⟨W3, st2, H4, _, rfl, P4, q2, fun r3 st3 v3 W5 H5 q5 s5 P5 rv5 => ?_⟩
    obtain ⟨d2', e6, q5⟩ := opt_ex q5
    obtain ⟨d3, e7, q5⟩ := opt_ex q5
    obtain ⟨o', e8, q5⟩ := opt_ex q5
    exact hr' c W5 st3 σ H5 v2 v3 d2' d3 o' _ P5 (P5.top ((rv2.step P2 s4).step P4 s5) e6) (P5.top rv5 e7) e8 fun v W' H6 s6 P6 ov => k _ _ _ _ _ q5 ((((s1.trans s2).trans s4).trans s5).trans s6) P6 ov
theorem po_ch {a b d ee : Expr} {r r' : V → V → Hp → VK → Prop} {g g' : D → D → Option O} {f1 f2 f3 : Ex} (hr : OpG r g) (hr' : OpG r' g') (h : ∀ {t1 t2 t3 : TE}, PE X a t1 → PE X b t2 → PE X d t3 → PE X ee (tChain r r' t1 t2 t3)) (h1 : PX X a f1) (h2 : PX X b f2) (h3 : PX X d f3) : PO X ee (xCh g g' f1 f2 f3) :=
  fun c l => peOf (h (h1 c l) (h2 c l) (h3 c l)) fun σ H Q q => chain_go hr hr' q
theorem pxt_ch {a b d ee : Expr} {r r' : V → V → Hp → VK → Prop} {g g' : D → D → Option O} {f1 f2 f3 : Ex} (hr : OpG r g) (hr' : OpG r' g') (h : ∀ {t1 t2 t3 : TE}, PE X a t1 → PE X b t2 → PE X d t3 → PT X ee (tTest (tChain r r' t1 t2 t3))) (h1 : PX X a f1) (h2 : PX X b f2) (h3 : PX X d f3) : PXT X ee (xTO (xCh g g' f1 f2 f3)) :=
  fun c l => ptOf (h (h1 c l) (h2 c l) (h3 c l)) fun σ H Q ⟨W, st, H1, Q0, hH, P, q, k⟩ => chain_go hr hr' ⟨W, st, H1, _, hH, P, q, fun o st1 v W1 H2 q1 s1 P1 ov => by
    obtain ⟨d, e1, q1⟩ := opt_ex q1
    exact ⟨d, ov_bl ov e1, k _ _ _ _ q1 s1 P1⟩⟩
end
end Q
namespace Q
open PySem L2 PySem.Spec PyProof.Rows
section
variable {X : Cx}
/-! ### isinstance -/
/-- a class whose instances isinstance can be asked of -/
structure InsT (K : PySem.W.Frag) (C : Addr) : Prop where
  cl : Cls K C
  ha : PySem.W.findIn K (.ref C) "__class__" = some (some (.builtin "object.__class__"))
  hn : PySem.W.specialIn K (.builtin "object.__class__") "__get__" = some (some (.builtin "getset_descriptor.__get__"))
  ht : PySem.W.takesIn K (.builtin "object.__class__") = some true
  hm : PySem.W.mroIn K C (.type "object") = some true
def tyG (K : PySem.W.Frag) (d : D) (J : Value → Prop) : Prop := match d with
  | .non => J (.type "NoneType")
  | .bl _ => J (.type "bool")
  | .int _ => J (.type "int")
  | .str _ => J (.type "str")
  | .byt _ => J (.type "bytes")
  | .lst _ => J (.type "list")
  | .tup _ => J (.type "tuple")
  | .dK _ => J (.type "dict")
  | .ins C _ => InsT K C ∧ J (.ref C)
  | _ => False
def clsG : D → Option Value
  | .ty n => some (.type n)
  | .cls a => some (.ref a)
  | _ => none
def clssG : List D → Option (List Value)
  | [] => some []
  | d :: ds => match clsG d, clssG ds with
    | some u, some us => some (u :: us)
    | _, _ => none
def isiG (K : PySem.W.Frag) : Gc := fun ds J => match ds with
  | [x, .tup cs] => tyG K x fun t => opt (clssG cs) fun us => opt (PySem.W.kitAny K t us) fun b => J (.d (.bl b))
  | [x, c] => tyG K x fun t => opt (clsG c) fun u => opt (PySem.W.kitOne K t u) fun b => J (.d (.bl b))
  | _ => False
def rIsiA (K : PySem.W.Frag) : List V → Hp → VK → Prop := fun xs H Q => rIsi K xs H Q ∨ rIsiT K xs H Q
theorem cIsi (K : PySem.W.Frag) (h : X.K = K := by rfl) : CallR X (.builtin "isinstance") (rIsiA K) := by
  subst h
  exact call_isi.or call_isiT
theorem ty_ok {c : C0} {W : Wd} {st : Ps} {σ : L2.St} {H : Hp} {K : PySem.W.Frag} (P : Pre c W st σ H) {v : V} {d : D} {J : Value → Prop} (t : Top W.φ W.F H v d) (g : tyG K d J) : ∃ ty, TyX K (lockH W.L H) v ty ∧ J ty := by
  cases t with
  | non => exact ⟨_, .base .non, g⟩
  | bl b => exact ⟨_, .base (.bl b), g⟩
  | int b => exact ⟨_, .base (.int b), g⟩
  | str b => exact ⟨_, .base (.str b), g⟩
  | byt b => exact ⟨_, .byt b, g⟩
  | lst h1 _ => exact ⟨_, .base (.lst (P.nol h1 rfl)), g⟩
  | tup h1 _ => exact ⟨_, .base (.tup (P.nol h1 rfl)), g⟩
  | dK h1 _ =>
    rcases lock_rd (L := W.L) h1 with z | ⟨o, z⟩
    · exact ⟨_, .base (.dK z), g⟩
    · exact ⟨_, .fDict z, g⟩
  | ins h1 _ => exact ⟨_, .base (.ins (P.nol h1 rfl) g.1.cl g.1.ha g.1.hn g.1.ht g.1.hm), g.2⟩
  | ty _ => exact g.elim
  | cls _ => exact g.elim
  | cell _ => exact g.elim
  | rows _ => exact g.elim
  | scr _ => exact g.elim
  | dT _ _ => exact g.elim
theorem cls_ok {φ F H} {v : V} {d : D} {u : Value} (t : Top φ F H v d) (e : clsG d = some u) : ClsV v u := by
  cases t with
  | ty n => cases e; exact .ty n
  | cls a => cases e; exact .own a
  | _ => cases e
theorem clss_ok {φ F H} : ∀ {vs : List V} {ds : List D} {us : List Value}, RepL φ F H vs ds → clssG ds = some us → Paired ClsV vs us
  | _, _, _, .nil, e => by cases e; exact .nil
  | _, _, _, .cons (d := d) (ds := ds) h t, e => by
    unfold clssG at e
    cases q1 : clsG d with
    | none => rw [q1] at e; cases e
    | some u =>
      cases q2 : clssG ds with
      | none => rw [q1, q2] at e; cases e
      | some us =>
        rw [q1, q2] at e
        cases e
        exact .cons (cls_ok h.top q1) (clss_ok t q2)
theorem g_isi (K : PySem.W.Frag) : CallG (rIsiA K) (isiG K) := fun c W st σ H vs ds Q J P t g k => by
  unfold isiG at g
  split at g
  · obtain ⟨v, u, rfl, t1, t2⟩ := tops_2 t
    obtain ⟨ty, h1, g⟩ := ty_ok P t1 g
    obtain ⟨us, e1, g⟩ := opt_ex g
    obtain ⟨b, e2, g⟩ := opt_ex g
    cases t2 with
    | tup h2 r2 => exact .inr ⟨_, _, _, _, us, b, rfl, P.nol h2 rfl, clss_ok r2 e1, h1, e2, (k _ g).d P (.bl _)⟩
  · obtain ⟨v, u, rfl, t1, t2⟩ := tops_2 t
    obtain ⟨ty, h1, g⟩ := ty_ok P t1 g
    obtain ⟨us, e1, g⟩ := opt_ex g
    obtain ⟨b, e2, g⟩ := opt_ex g
    exact .inl ⟨_, _, _, us, b, rfl, cls_ok t2 e1, h1, e2, (k _ g).d P (.bl _)⟩
  · exact g.elim
/-! ### fields -/
structure FldOk (K : PySem.W.Frag) (C : Addr) (f : Str) : Prop where
  cl : Cls K C
  no : NoAttr K C f
def fldG (K : PySem.W.Frag) (f : Str) : List Cell → D → (O → Prop) → Prop := fun S d J => match d with
  | .ins C fs => FldOk K C f ∧ opt (fs.lookup f) fun x => J (.d x)
  | .cell n => match S[n]? with
    | some (.db _ C sch _) => FldOk K C f ∧ ((f = "own_schema" ∧ J (.d sch)) ∨ (f = "own_rows" ∧ J (.d (.rows n))))
    | _ => False
  | _ => False
def rFld (K : PySem.W.Frag) (f : Str) : V → Hp → VK → Prop := fun x H Q => ∃ a C dx fs v, x = .ref a ∧ H a = some (.ins C dx fs) ∧ Cls K C ∧ NoAttr K C f ∧ fs.lookup f = some v ∧ Q v H
theorem RepF.lookup {φ F H} {f : Str} : ∀ {vs : List (Str × V)} {ds : List (Str × D)} {d : D}, RepF φ F H vs ds → ds.lookup f = some d → ∃ v, vs.lookup f = some v ∧ Rep φ F H v d
  | _, _, _, .nil, e => by cases e
  | _, _, _, .cons (k := k) h t, e => by
    rw [List.lookup_cons] at e ⊢
    cases q : f == k with
    | true => rw [q] at e; cases e; exact ⟨_, rfl, h⟩
    | false => rw [q] at e; exact t.lookup e
theorem g_fld (K : PySem.W.Frag) (f : Str) : UnG (rFld K f) (fldG K f) := fun c W st σ H v d Q J P t g k => by
  unfold fldG at g
  split at g
  · obtain ⟨ok, g⟩ := g
    obtain ⟨x, e, g⟩ := opt_ex g
    cases t with
    | ins h1 r1 =>
      obtain ⟨y, e1, r2⟩ := r1.lookup e
      exact ⟨_, _, _, _, y, rfl, P.nol h1 rfl, ok.cl, ok.no, e1, (k _ g).d P r2⟩
  · split at g
    · rename_i n _ x0 C sch rows hS
      obtain ⟨ok, g⟩ := g
      cases t with
      | cell e =>
        have hl := P.base.len
        have hn := (List.getElem?_eq_some_iff.mp e).1
        obtain ⟨dx, vs, kvs, ts, _, _, h2, h3, _⟩ := P.base.cell n _ _ _ e hS (List.getElem?_eq_getElem (by omega))
        rcases g with ⟨rfl, g⟩ | ⟨rfl, g⟩
        · exact ⟨_, _, _, _, vs, rfl, P.nol h2 rfl, ok.cl, ok.no, rfl, (k _ g).d P h3⟩
        · exact ⟨_, _, _, _, _, rfl, P.nol h2 rfl, ok.cl, ok.no, rfl, (k _ g).d P (.rows e)⟩
    · exact g.elim
  · exact g.elim
/-! ### d[k], k in d -/
def keyD : D → Option Key
  | .int i => some (.inl i)
  | .str s => some (.inr s)
  | _ => none
def keysD : List D → Option (List Key)
  | [] => some []
  | d :: ds => match keyD d, keysD ds with
    | some k, some ks => some (k :: ks)
    | _, _ => none
def valD {κ : Type} [DecidableEq κ] (kvs : List (κ × D)) (k : κ) : Option D := (kvs.find? fun kv => decide (kv.1 = k)).map (·.2)
def getD : D → D → Option (Option D)
  | .dK kvs, y => (keyD y).map fun k => valD kvs k
  | .dT kvs, .tup ys => (keysD ys).map fun k => valD kvs k
  | _, _ => none
theorem RepK.val {φ F H} {k : Key} : ∀ {vs : List (Key × V)} {ds : List (Key × D)}, RepK φ F H vs ds → (valV vs k).isSome = (valD ds k).isSome ∧ ∀ d, valD ds k = some d → ∃ v, valV vs k = some v ∧ Rep φ F H v d
  | _, _, .nil => ⟨rfl, fun d e => by cases e⟩
  | _, _, .cons (k := k') (v := v) (d := d) (vs := vs) (ds := ds) h t => by
    by_cases e : k' = k
    · have e1 : valV ((k', v) :: vs) k = some v := valV_pos e
      have e2 : valD ((k', d) :: ds) k = some d := by simp [valD, List.find?_cons, e]
      rw [e1, e2]
      exact ⟨rfl, fun d' z => by cases z; exact ⟨v, rfl, h⟩⟩
    · have e1 : valV ((k', v) :: vs) k = valV vs k := valV_neg e
      have e2 : valD ((k', d) :: ds) k = valD ds k := by simp [valD, List.find?_cons, e]
      rw [e1, e2]
      exact t.val
theorem RepT.val {φ F H} {k : List Key} : ∀ {vs : List (List Key × V)} {ds : List (List Key × D)}, RepT φ F H vs ds → (valV vs k).isSome = (valD ds k).isSome ∧ ∀ d, valD ds k = some d → ∃ v, valV vs k = some v ∧ Rep φ F H v d
  | _, _, .nil => ⟨rfl, fun d e => by cases e⟩
  | _, _, .cons (k := k') (v := v) (d := d) (vs := vs) (ds := ds) h t => by
    by_cases e : k' = k
    · have e1 : valV ((k', v) :: vs) k = some v := valV_pos e
      have e2 : valD ((k', d) :: ds) k = some d := by simp [valD, List.find?_cons, e]
      rw [e1, e2]
      exact ⟨rfl, fun d' z => by cases z; exact ⟨v, rfl, h⟩⟩
    · have e1 : valV ((k', v) :: vs) k = valV vs k := valV_neg e
      have e2 : valD ((k', d) :: ds) k = valD ds k := by simp [valD, List.find?_cons, e]
      rw [e1, e2]
      exact t.val
theorem key_rep {φ F H} {v : V} {d : D} {k : Key} (t : Top φ F H v d) (e : keyD d = some k) : v = kV k := by
  cases t with
  | int i => cases e; rfl
  | str s => cases e; rfl
  | _ => cases e
theorem keys_rep {φ F H} : ∀ {vs : List V} {ds : List D} {ks : List Key}, RepL φ F H vs ds → keysD ds = some ks → vs = ks.map kV
  | _, _, _, .nil, e => by cases e; rfl
  | _, _, _, .cons (d := d) (ds := ds) h t, e => by
    unfold keysD at e
    cases q1 : keyD d with
    | none => rw [q1] at e; cases e
    | some k =>
      cases q2 : keysD ds with
      | none => rw [q1, q2] at e; cases e
      | some ks =>
        rw [q1, q2] at e
        cases e
        rw [key_rep h.top q1, keys_rep t q2]
        rfl
theorem get_ok {c : C0} {W : Wd} {st : Ps} {σ : L2.St} {H : Hp} (P : Pre c W st σ H) {x y : V} {d1 d2 : D} {o : Option D} (t1 : Top W.φ W.F H x d1) (t2 : Top W.φ W.F H y d2) (e : getD d1 d2 = some o) : ∃ a r, x = .ref a ∧ DGet (lockH W.L H) a y r ∧ r.isSome = o.isSome ∧ ∀ d, o = some d → ∃ v, r = some v ∧ Rp W H v d := by
  unfold getD at e
  split at e
  · obtain ⟨k, e1, rfl⟩ := Option.map_eq_some_iff.mp e
    have := key_rep t2 e1
    subst this
    cases t1 with
    | dK h1 r1 => exact ⟨_, _, rfl, .inl ⟨_, k, lock_rd h1, rfl, rfl⟩, r1.val.1, r1.val.2⟩
  · obtain ⟨k, e1, rfl⟩ := Option.map_eq_some_iff.mp e
    cases t2 with
    | tup h2 r2 =>
      have := keys_rep r2 e1
      subst this
      cases t1 with
      | dT h1 r1 => exact ⟨_, _, rfl, .inr ⟨_, k, _, lock_rd h1, rfl, P.nol h2 rfl, rfl⟩, r1.val.1, r1.val.2⟩
  · cases e
def dgG (a b : D) : Option O := match getD a b with
  | some (some d) => some (.d d)
  | _ => none
def rDg : V → V → Hp → VK → Prop := fun x y H Q => ∃ a v, x = .ref a ∧ DGet H a y (some v) ∧ Q v H
theorem g_dg : OpG rDg dgG := fun c W st σ H v1 v2 d1 d2 o Q P t1 t2 e h => by
  unfold dgG at e
  split at e
  · rename_i d q
    cases e
    obtain ⟨a, r, rfl, g, _, k⟩ := get_ok P t1 t2 q
    obtain ⟨v, rfl, rv⟩ := k d rfl
    exact ⟨a, v, rfl, g, h.d P rv⟩
  · cases e
def rInDc (n : Bool) : V → V → Hp → VK → Prop := fun x y H Q => ∃ a o, y = .ref a ∧ DGet H a x o ∧ Q (.bl (if n then !o.isSome else o.isSome)) H
theorem op_inDc (hu : X.A.units + 1 < cLine) : OpR X (compareOp .In) (rInDc false) := by
  intro pins s σ H x y v u Q I rx ry h
  obtain ⟨a, o, rfl, g, q⟩ := h
  cases ry
  exact d_in hu I g rx fun s3 I3 => ⟨.bl o.isSome, H, I3, rfl, q⟩
theorem op_notInDc (hu : X.A.units + 1 < cLine) : OpR X (compareOp .NotIn) (rInDc true) := by
  intro pins s σ H x y v u Q I rx ry h
  obtain ⟨a, o, rfl, g, q⟩ := h
  cases ry
  exact d_notIn hu I g rx fun s3 I3 => ⟨.bl (!o.isSome), H, I3, rfl, q⟩
def inG (n : Bool) (x y : D) : Option O := match getD y x with
  | some o => some (.d (.bl (if n then !o.isSome else o.isSome)))
  | none => inD n x y
theorem g_inG (K : PySem.W.Frag) : OpG (fun x y H Q => rInDc false x y H Q ∨ rInA K x y H Q) (inG false) := fun c W st σ H v1 v2 d1 d2 o Q P t1 t2 e h => by
  unfold inG at e
  split at e
  · rename_i o' q
    cases e
    obtain ⟨a, r, rfl, g, hs, _⟩ := get_ok P t2 t1 q
    exact .inl ⟨a, r, rfl, g, h.d P (by rw [hs]; exact .bl _)⟩
  · exact .inr (g_in K c W st σ H v1 v2 d1 d2 o Q P t1 t2 e h)
theorem g_notInG (K : PySem.W.Frag) : OpG (fun x y H Q => rInDc true x y H Q ∨ rNotInA K x y H Q) (inG true) := fun c W st σ H v1 v2 d1 d2 o Q P t1 t2 e h => by
  unfold inG at e
  split at e
  · rename_i o' q
    cases e
    obtain ⟨a, r, rfl, g, hs, _⟩ := get_ok P t2 t1 q
    exact .inl ⟨a, r, rfl, g, h.d P (by rw [hs]; exact .bl _)⟩
  · exact .inr (g_notIn K c W st σ H v1 v2 d1 d2 o Q P t1 t2 e h)
theorem op_inX (K : PySem.W.Frag) (hu : X.A.units + 65 < cLine) (h : X.K = K := by rfl) : OpR X (compareOp .In) (fun x y H Q => rInDc false x y H Q ∨ rInA K x y H Q) := (op_inDc (by omega)).or (op_inA K hu h)
theorem op_notInX (K : PySem.W.Frag) (hu : X.A.units + 65 < cLine) (h : X.K = K := by rfl) : OpR X (compareOp .NotIn) (fun x y H Q => rInDc true x y H Q ∨ rNotInA K x y H Q) := (op_notInDc (by omega)).or (op_notInA K hu h)
/-! ### changing a slot's list or dict -/
def sApp (i : Nat) (f : Ex) : Sx := fun E K st => (∃ ys, st.ρ[i]? = some (.lst ys)) ∧ f E st fun r st1 => opt (frz st1 r) fun q => match q.2.ρ[i]? with
  | some (.lst xs) => xs.length < sizeLine ∧ K.nx { q.2 with ρ := q.2.ρ.set i (.lst (xs ++ [q.1])) }
  | _ => False
theorem Pre.own_lst {c : C0} {W : Wd} {st : Ps} {σ : L2.St} {H : Hp} (P : Pre c W st σ H) {i : Nat} {xs : List D} (h : st.ρ[i]? = some (.lst xs)) : ∃ a vs, σ[i]? = some (some (.ref a)) ∧ H a = some (.lst vs) ∧ RepL W.φ W.F H vs xs := by
  obtain ⟨a, e1, vs, e2, e3⟩ := P.slot i _ h
  exact ⟨a, vs, join_ref e1, e2, e3⟩
theorem pxs_app {e ee : Expr} {i : Nat} {f : Ex} {s : Stmt} (h : ∀ {t : TA}, PA X [e] t → PS X s (tDrop (tBM X.K "list" rAppend (tVar i) t))) (he : PXA X [e] (xCons f xNil)) : PXS X s (sApp i f) := fun c l => psOf (h (he c l)) fun D σ H ⟨W, st, H1, K, hH, P, ek, ⟨ys, hy⟩, q⟩ => by
  subst hH
  obtain ⟨a, vs, e1, e2, e3⟩ := P.own_lst hy
  refine ⟨_, e1, .inl ⟨rfl, vs, SqL.of (P.nol e2 rfl)⟩, W, st, H1, fun rs st1 => ∃ r, rs = [r] ∧ opt (frz st1 r) fun q => match q.2.ρ[i]? with
    | some (.lst xs) => xs.length < sizeLine ∧ K.nx { q.2 with ρ := q.2.ρ.set i (.lst (xs ++ [q.1])) }
    | _ => False, rfl, P, ?_, ?_⟩
  · show f c.E st fun r st1 => ∃ r', [r] = [r'] ∧ _
    simp only [List.cons.injEq, and_true, exists_eq_left']
    exact q
  · rintro rs st1 us W1 H2 ⟨r, rfl, q1⟩ s1 P1 rvs
    obtain ⟨⟨y, st2⟩, e4, q1⟩ := opt_ex q1
    cases rvs with
    | cons rv t =>
      cases t
      obtain ⟨W2, s2, P2, r2, eL⟩ := frz_ok P1 e4 rv
      dsimp only at q1 P2 r2
      split at q1
      · rename_i xs hxs
        obtain ⟨a', vs', f1, f2, f3⟩ := P2.own_lst hxs
        rw [e1] at f1
        cases f1
        refine ⟨_, _, _, rfl, rfl, P1.nol f2 rfl, by rw [f3.length]; exact q1.1, ?_⟩
        have so : slotOwns st2.ρ σ i a := ⟨_, hxs, rfl, e1⟩
        rw [← eL, lock_upd (P2.lown (P2.sown i a so).1 (P2.sown i a so).2.1)]
        refine ek.1 _ _ _ _ q1.2 (P2.mutate hxs rfl e1 rfl fun fu => ⟨_, upd_same, (f3.fut fu).snoc (r2.fut fu)⟩) ((P.aft (s1.trans s2)).trans ⟨?_, [], rfl⟩)
        exact fut_mut W2 (P2.sown i a so).1 f2 rfl
      · exact q1.elim
/-- found.append(left.pop(e)) -/
def appPopK (i j : Nat) (K : En) (r : R) (st1 : Ps) : Prop := match r, st1.ρ[i]?, st1.ρ[j]? with
  | .v (.int n), some (.lst xs), some (.lst zs) => 0 ≤ n ∧ opt zs[n.toNat]? fun z => n < 2 ^ 63 ∧ xs.length < sizeLine ∧ K.nx { st1 with ρ := (st1.ρ.set j (.lst (zs.eraseIdx n.toNat))).set i (.lst (xs ++ [z])) }
  | _, _, _ => False
def sAppPop (i j : Nat) (f : Ex) : Sx := fun E K st => (∃ ys, st.ρ[i]? = some (.lst ys)) ∧ (∃ ys, st.ρ[j]? = some (.lst ys)) ∧ i ≠ j ∧ f E st fun r st1 => appPopK i j K r st1
end
end Q
namespace Q
open PySem L2 PySem.Spec PyProof.Rows
theorem _root_.L2.Room.u65 {k : Nat} {A : Around} (r : Room k A) : A.units + 65 < cLine := by have := r.un; omega
section
variable {X : Cx}
theorem kSum (K : PySem.W.Frag) (hc : X.calm = true) (h : X.K = K := by rfl) : CallR X (.builtin "sum") (rSum K) := by subst h; exact cr_sum hc
/-! ### is None -/
def isNG (a b : D) : Option O := match a, b with
  | .non, .non => some (.d (.bl true))
  | .bl _, .non => some (.d (.bl false))
  | .int _, .non => some (.d (.bl false))
  | .str _, .non => some (.d (.bl false))
  | .lst _, .non => some (.d (.bl false))
  | .tup _, .non => some (.d (.bl false))
  | .dK _, .non => some (.d (.bl false))
  | .dT _, .non => some (.d (.bl false))
  | .ins _ _, .non => some (.d (.bl false))
  | .cell _, .non => some (.d (.bl false))
  | _, _ => none
def notNG (a b : D) : Option O := match isNG a b with
  | some (.d (.bl x)) => some (.d (.bl (!x)))
  | _ => none
theorem isN_v {φ F H} {v u : V} {a b : D} {o : O} (t : Top φ F H v a) (t' : Top φ F H u b) (e : isNG a b = some o) : u = .non ∧ o = .d (.bl (decide (v = .non))) := by
  unfold isNG at e
  cases t' with
  | non =>
    refine ⟨rfl, ?_⟩
    cases t <;> first | (cases e; rfl) | cases e
  | _ => cases t <;> cases e
theorem g_isN : OpG (fun x y H Q => y = .non ∧ Q (.bl (decide (x = .non))) H) isNG := fun c W st σ H v1 v2 d1 d2 o Q P t1 t2 e h => by
  obtain ⟨rfl, rfl⟩ := isN_v t1 t2 e
  exact ⟨rfl, h.d P (.bl _)⟩
theorem g_notN : OpG (fun x y H Q => y = .non ∧ Q (.bl (!decide (x = .non))) H) notNG := fun c W st σ H v1 v2 d1 d2 o Q P t1 t2 e h => by
  unfold notNG at e
  split at e
  · rename_i x q
    cases e
    obtain ⟨rfl, z⟩ := isN_v t1 t2 q
    cases z
    exact ⟨rfl, h.d P (.bl _)⟩
  · cases e
/-! ### texts -/
theorem op_mulS : OpR X (binaryOp .Mult) (fun x y H Q => ∃ z i, x = .str z ∧ y = .int i ∧ MulOk z i ∧ Q (.str (Txt.mul z i)) H) := by
  intro pins s σ H x y v u Q I rx ry h
  obtain ⟨z, i, rfl, rfl, ok, q⟩ := h
  obtain ⟨t, rfl⟩ := rx
  obtain ⟨t', rfl⟩ := ry
  exact SB.mul ok fun t' k => ⟨.str _, H, I.tok k, ⟨_, rfl⟩, q⟩
instance (z : Str) (i : Int) : Decidable (MulOk z i) := by unfold MulOk; infer_instance
def mulSG : D → D → Option O
  | .str z, .int i => if MulOk z i then some (.d (.str (Txt.mul z i))) else none
  | _, _ => none
theorem g_mulS : OpG (fun x y H Q => ∃ z i, x = .str z ∧ y = .int i ∧ MulOk z i ∧ Q (.str (Txt.mul z i)) H) mulSG := fun c W st σ H v1 v2 d1 d2 o Q P t1 t2 e h => by
  unfold mulSG at e
  split at e
  · split at e
    · rename_i hk
      cases e; cases t1; cases t2
      exact ⟨_, _, rfl, rfl, hk, h.d P (.str _)⟩
    · cases e
  · cases e
def strsD : List D → Option (List Str)
  | [] => some []
  | .str b :: ds => match strsD ds with
    | some bs => some (b :: bs)
    | none => none
  | _ => none
theorem strs_rep {φ F H} : ∀ {ds : List D} {vs : List V} {bs : List Str}, RepL φ F H vs ds → strsD ds = some bs → vs = bs.map V.str
  | [], _, _, h, e => by cases h; cases e; rfl
  | d :: ds, _, bs, h, e => by
    cases h with
    | cons h1 h2 =>
      cases d with
      | str b =>
        unfold strsD at e
        cases q : strsD ds with
        | none => rw [q] at e; cases e
        | some bs' =>
          rw [q] at e
          cases e
          cases h1
          rw [strs_rep h2 q]
          rfl
      | _ => cases e
def joinG : D → D → Option O
  | .str a, .lst xs => match strsD xs with
    | some ys => if (ys.map (·.length)).sum + ys.length * a.length ≤ 16777216 then some (.d (.str (Txt.join a ys))) else none
    | none => none
  | _, _ => none
def rJoin (K : PySem.W.Frag) : V → V → Hp → VK → Prop := fun x y H Q => ∃ a p, ∃ ys : List Str, x = .str a ∧ y = .ref p ∧ (SqL K H p (ys.map V.str) ∨ SqT K H p (ys.map V.str)) ∧ (ys.map (·.length)).sum + ys.length * a.length ≤ 16777216 ∧ Q (.str (Txt.join a ys)) H
def isS (st : Ps) (r : R) : Prop := match look st r with
  | some (.str _) => True
  | _ => False
/-- a text's method with one argument -/
def xM1 (g : D → D → Option O) (f1 f2 : Ex) : Ox := fun E st Q => f1 E st fun r1 st1 => isS st1 r1 ∧ f2 E st1 fun r2 st2 => opt (look st2 r1) fun d1 => opt (look st2 r2) fun d2 => opt (g d1 d2) fun o => Q o st2
theorem isS_ok {c : C0} {W : Wd} {st : Ps} {σ : L2.St} {H : Hp} (P : Pre c W st σ H) {r : R} {v : V} (h : isS st r) (rv : RV W σ H v r) : ∃ a, v = .str a := by
  unfold isS at h
  split at h
  · rename_i a e
    have t := P.top rv e
    cases t
    exact ⟨_, rfl⟩
  · exact h.elim
theorem po_m1 {a b ee : Expr} {f1 f2 : Ex} {r : V → List V → Hp → VK → Prop} {g : D → D → Option O} (hr : OpG (fun x y => r x [y]) g) (h : ∀ {t1 t2 : TE}, PE X a t1 → PE X b t2 → PE X ee (tM1 r t1 t2)) (h1 : PX X a f1) (h2 : PX X b f2) : PO X ee (xM1 g f1 f2) :=
  fun c l => peOf (h (h1 c l) (h2 c l)) fun σ H Q ⟨W, st, H1, Q0, hH, P, q, k⟩ => by
    refine ⟨W, st, H1, _, hH, P, q, fun r1 st1 v1 W1 H2 q1 s1 P1 rv1 => ⟨isS_ok P1 q1.1 rv1, W1, st1, H2, _, rfl, P1, q1.2, fun r2 st2 v2 W2 H3 q2 s2 P2 rv2 => ?_⟩⟩
    obtain ⟨d1, e1, q2⟩ := opt_ex q2
    obtain ⟨d2, e2, q2⟩ := opt_ex q2
    obtain ⟨o, e3, q2⟩ := opt_ex q2
    exact hr c W2 st2 σ H3 v1 v2 d1 d2 o Q P2 (P2.top (rv1.step P1 s2) e1) (P2.top rv2 e2) e3 fun v W' H4 s4 P4 ov => k _ _ _ _ _ q2 ((s1.trans s2).trans s4) P4 ov
theorem g_join (K : PySem.W.Frag) : OpG (fun x y H Q => ∃ a p, ∃ ys : List Str, x = .str a ∧ [y] = [.ref p] ∧ (SqL K H p (ys.map V.str) ∨ SqT K H p (ys.map V.str)) ∧ (ys.map (·.length)).sum + ys.length * a.length ≤ 16777216 ∧ Q (.str (Txt.join a ys)) H) joinG := fun c W st σ H v1 v2 d1 d2 o Q P t1 t2 e h => by
  unfold joinG at e
  split at e
  · split at e
    · rename_i ys q
      split at e
      · rename_i hl
        cases e; cases t1
        cases t2 with
        | lst h1 r1 =>
          have := strs_rep r1 q
          subst this
          exact ⟨_, _, ys, rfl, rfl, .inl (SqL.of (P.nol h1 rfl)), hl, h.d P (.str _)⟩
      · cases e
    · cases e
  · cases e
theorem pe_join2 (K : PySem.W.Frag) {o e : Expr} {to te : TE} {apos pos : Pos} (ho : PE X o to) (he : PE X e te) (h : X.K = K := by rfl) (hs : starEach [e] X.env = [(false, eval e X.env)] := by rfl) (hbase : attributeBase o "join" X.env (eval o X.env) = eval o X.env := by rfl) (hline : (apos.endLine == pos.line) = true := by rfl) :
    PE X (.Call (.Attribute o "join" apos) [e] [] pos) (tM1 (fun x xs H Q => ∃ a p, ∃ ys : List Str, x = .str a ∧ xs = [.ref p] ∧ (SqL K H p (ys.map V.str) ∨ SqT K H p (ys.map V.str)) ∧ (ys.map (·.length)).sum + ys.length * a.length ≤ 16777216 ∧ Q (.str (Txt.join a ys)) H) to te) := by
  subst h
  exact pe_join ho he hs hbase hline
/-- slices of texts -/
def xSlS (f : Ex) (lo hi : Px) : Ox := fun E st Q => f E st fun r st1 => lo E st1 fun i st2 => hi E st2 fun j st3 => opt (look st3 r) fun d => match d with
  | .str z => z.length ≤ sizeLine ∧ Q (.d (.str (cutS z i j))) st3
  | _ => False
theorem po_slS {e ee : Expr} {lo hi : Option Expr} {f : Ex} {pl ph : Px} (h : ∀ {te : TE} {tl th : TO}, PE X e te → L2.PO X lo tl → L2.PO X hi th → PE X ee (tSl rSlS te tl th)) (he : PX X e f) (hl : PXP X lo pl) (hh : PXP X hi ph) : PO X ee (xSlS f pl ph) := fun c l => peOf (h (he c l) (hl c l) (hh c l)) fun σ H Q ⟨W, st, H1, Q0, hH, P, q, k⟩ =>
  ⟨W, st, H1, _, hH, P, q, fun r st1 v W1 H2 q1 s1 P1 rv => ⟨W1, st1, H2, _, rfl, P1, q1, fun i st2 W2 H3 q2 s2 P2 => ⟨W2, st2, H3, _, rfl, P2, q2, fun j st3 W3 H4 q3 s3 P3 => by
    obtain ⟨d, e1, q3⟩ := opt_ex q3
    have t := P3.top ((rv.step P1 s2).step P2 s3) e1
    split at q3
    · cases t
      exact ⟨_, rfl, q3.1, k _ _ _ _ _ q3.2 ((s1.trans s2).trans s3) P3 (.str _ : Rp W3 H4 _ (.str _))⟩
    · exact q3.elim⟩⟩⟩
/-! ### found.append(left.pop(e)) -/
theorem RepL.erase {φ F H} : ∀ (n : Nat) {vs : List V} {ds : List D}, RepL φ F H vs ds → RepL φ F H (vs.eraseIdx n) (ds.eraseIdx n)
  | _, _, _, .nil => .nil
  | 0, _, _, .cons _ t => t
  | n + 1, _, _, .cons h t => .cons h (t.erase n)
theorem pxs_appPop {e pe : Expr} {i j : Nat} {f : Ex} {s : Stmt} (h : ∀ {t : TA}, PA X [pe] t → PS X s (tDrop (tBM X.K "list" rAppend (tVar i) t))) (h2 : ∀ {t : TA}, PA X [e] t → PE X pe (tBM X.K "list" rPopAt (tVar j) t)) (hs : starEach [pe] X.env = (false, eval pe X.env) :: starEach [] X.env) (he : PXA X [e] (xCons f xNil)) : PXS X s (sAppPop i j f) := fun c l => psOf (h (pa_cons (h2 (he c l)) pa_nil hs)) fun D σ H ⟨W, st, H1, K, hH, P, ek, ⟨ys, hy⟩, ⟨zs, hz⟩, hij, q⟩ => by
  subst hH
  obtain ⟨a, vs, e1, e2, e3⟩ := P.own_lst hy
  obtain ⟨b, us, g1, g2, g3⟩ := P.own_lst hz
  refine ⟨_, e1, .inl ⟨rfl, vs, SqL.of (P.nol e2 rfl)⟩, _, g1, .inl ⟨rfl, us, SqL.of (P.nol g2 rfl)⟩, W, st, H1, fun rs st1 => (match rs with | [r] => appPopK i j K r st1 | _ => False), rfl, P, q, ?_⟩
  intro rs st1 ws W1 H2 q1 s1 P1 rvs
  split at q1
  · rename_i r
    cases rvs with
    | cons rv t =>
      cases t
      unfold appPopK at q1
      split at q1
      · rename_i n xs' zs' hx' hz'
        obtain ⟨h0, q1⟩ := q1
        obtain ⟨z, hk, h1, hl, q1⟩ := opt_ex q1
        have rv' : Rp W1 H2 _ (.int n) := rv
        cases rv'
        obtain ⟨a', vs', f1, f2, f3⟩ := P1.own_lst hx'
        obtain ⟨b', us', f4, f5, f6⟩ := P1.own_lst hz'
        rw [e1] at f1
        rw [g1] at f4
        cases f1
        cases f4
        have sa : slotOwns st1.ρ σ i a := ⟨_, hx', rfl, e1⟩
        have sb : slotOwns st1.ρ σ j b := ⟨_, hz', rfl, g1⟩
        have nab : a ≠ b := fun z => hij (P1.sapart i j a sa (by rw [z]; exact sb))
        obtain ⟨v, ev, rvv⟩ := f6.get hk
        have hkl : n.toNat < us'.length := (List.getElem?_eq_some_iff.mp ev).1
        have M1 := P1.mutate (u' := .lst (us'.eraseIdx n.toNat)) (o' := .lst (zs'.eraseIdx n.toNat)) hz' rfl g1 rfl fun fu => ⟨_, upd_same, (f6.fut fu).erase _⟩
        have fu1 := fut_mut W1 (u' := .lst (us'.eraseIdx n.toNat)) (P1.sown j b sb).1 f5 rfl
        have hx2 : ({ st1 with ρ := st1.ρ.set j (.lst (zs'.eraseIdx n.toNat)) } : Ps).ρ[i]? = some (.lst xs') := by
          show (st1.ρ.set j _)[i]? = _
          rw [List.getElem?_set_ne (Ne.symm hij)]
          exact hx'
        have M2 := M1.mutate (u' := .lst (vs' ++ [v])) (o' := .lst (xs' ++ [z])) hx2 rfl e1 rfl fun fu => ⟨_, upd_same, ((f3.fut fu1).fut fu).snoc ((rvv.fut fu1).fut fu)⟩
        have fu2 := fut_mut W1 (H := upd H2 b (.lst (us'.eraseIdx n.toNat))) (u := .lst vs') (u' := .lst (vs' ++ [v])) (P1.sown i a sa).1 (by rw [upd_ne nab]; exact f2) rfl
        refine ⟨b, us', n, n.toNat, v, rfl, rfl, P1.nol f5 rfl, by omega, h1, ?_, ev, a, vs', v, rfl, rfl, ?_, by rw [f3.length]; exact hl, ?_⟩
        · have hneg : ¬ n < 0 := by omega
          have : (decide (0 ≤ n) && decide (n < (us'.length : Int))) = true := by
            rw [Bool.and_eq_true, decide_eq_true_eq, decide_eq_true_eq]
            omega
          simp only [seqIndex?, if_neg hneg, this, if_true]
        · rw [upd_ne nab]
          exact P1.nol f2 rfl
        · rw [lock_upd (P1.lown (P1.sown j b sb).1 (P1.sown j b sb).2.1), lock_upd (P1.lown (P1.sown i a sa).1 (P1.sown i a sa).2.1)]
          exact ek.1 _ _ _ _ q1 M2 ((P.aft s1).trans ((⟨fu1, [], rfl⟩ : Aft W1 H2 W1 _).trans ⟨fu2, [], rfl⟩))
      · exact q1.elim
  · exact q1.elim
/-! ### a new dict -/
def xNewK : Ox := fun _ st Q => Q (.dK []) st
def xNewT : Ox := fun _ st Q => Q (.dT []) st
theorem po_newK {pos : Pos} : PO X (.Dict [] [] pos) xNewK := fun c l => peOf pe_dnewK fun σ H Q ⟨W, st, H1, Q0, hH, P, q, k⟩ => by
  subst hH
  exact Res.new P (o := .dK []) (fun v W' H2 s P' ov => k _ _ _ _ _ q s P' ov) rfl fun p hp => ⟨[], upd_same, .nil⟩
theorem po_newT {pos : Pos} : PO X (.Dict [] [] pos) xNewT := fun c l => peOf pe_dnewT fun σ H Q ⟨W, st, H1, Q0, hH, P, q, k⟩ => by
  subst hH
  exact Res.new P (o := .dT []) (fun v W' H2 s P' ov => k _ _ _ _ _ q s P' ov) rfl fun p hp => ⟨[], upd_same, .nil⟩
end
end Q
/-! own special methods: in, not in, [], []=, |, -, ==, != of instances of own classes -/
namespace Q
open PySem L2
section
variable {X : Cx} {CX : CXT} {n : Nat} {f C : Addr} {fd : FuncData} {ps : List Str} {sp : Sp} {E : XK}
theorem run_at (F : FnOk X.prog X.w X.K X.mg X.base CX n f fd ps sp) (hb : Binds X.K fd ps []) (hx : Passes CX X E) {A : Around} (sb : Sub X n A) {pins : List (Addr × Obj)} {s : Shared} {σ : L2.St} {H : Hp} {vs : List V} {us : List Value} {W : VK}
    (I : L2.Inv X pins σ H s) (r : Vals vs us) (h : sp vs H W E) : wpAny (model X.prog X.w) A (call (.ref f) us) (EP X pins σ W) X.xe s := by
  have e0 : Env0 X.prog X.w X.K X.mg X.base A X.stack s H := by
    have e := I.env0
    exact ⟨by rw [sb.fr]; exact e.frames, e.mod, e.bs, e.bsz, e.funs, e.frf, e.hok, e.bare⟩
  have hl : us.length = ps.length := by rw [← r.length]; exact F.len _ _ _ _ h
  have bd := hb s us I.kIn (by rw [List.append_nil]; exact hl)
  rw [List.append_nil] at bd
  refine wpAny_call (codeAny_mono (F.run A X.stack s H ⟨us, []⟩ us vs W E sb.room e0 bd r h) fun q s' hq => ?_)
  cases q with
  | error e => exact hx pins σ H s e s' I hq
  | ok fl =>
    cases fl with
    | ret w => exact I.after hq
    | next => exact False.elim hq
    | brk => exact False.elim hq
    | cont => exact False.elim hq
/-- an instance of the class at C -/
def IsIns (H : Hp) (a C : Addr) : Prop := ∃ dx fs, H a = some (.ins C dx fs)
theorem ins_at {pins : List (Addr × Obj)} {s : Shared} {σ : L2.St} {H : Hp} {a : Addr} (I : L2.Inv X pins σ H s) (h : IsIns H a C) : ∃ ox od, PySem.W.InstAt s.heap a ox C od := by
  obtain ⟨dx, fs, e⟩ := h
  obtain ⟨mA, J, _⟩ := ins_get I.hok e
  obtain ⟨od, J, _⟩ := J.look
  exact ⟨_, _, J⟩
/-- what is asked of an own method that is called by a sign -/
structure Spc (X : Cx) (C : Addr) (m : Str) (f : Addr) : Prop where
  at_ : PySem.W.findIn X.K (.ref C) m = some (some (.ref f))
  fn : PySem.W.isFn X.K (.ref f) = true
def boolQ (Q : VK) : VK := fun r H' => ∃ b, r = .bl b ∧ Q (.bl b) H'
def notQ (Q : VK) : VK := fun r H' => ∃ b, r = .bl b ∧ Q (.bl (!b)) H'
def rInOwn (C : Addr) (sp : Sp) (E : XK) : R2 := fun x y H Q => ∃ a, y = .ref a ∧ IsIns H a C ∧ sp [.ref a, x] H (boolQ Q) E
def rNotInOwn (C : Addr) (sp : Sp) (E : XK) : R2 := fun x y H Q => ∃ a, y = .ref a ∧ IsIns H a C ∧ sp [.ref a, x] H (notQ Q) E
theorem op_inOwn (S : Spc X C "__contains__" f) (F : FnOk X.prog X.w X.K X.mg X.base CX n f fd ps sp) (hr : Room n X.A) (hb : Binds X.K fd ps []) (hx : Passes CX X E) : OpR X (compareOp .In) (rInOwn C sp E) := by
  intro pins s σ H x y v u Q I rx ry h
  obtain ⟨a, rfl, hi, q⟩ := h
  cases ry
  obtain ⟨ox, od, J⟩ := ins_at I hi
  obtain ⟨m, hF⟩ := I.fr
  refine PySem.W.in_K hF I.ok.mod.kin J S.at_ S.fn (wpAny_mono (run_at (vs := [.ref a, x]) F hb hx ⟨hr, rfl⟩ I (.cons rfl (.cons rx .nil)) q) (fun r s' z => ?_) fun _ _ e => e)
  obtain ⟨z, H', I', rz, b, rfl, q'⟩ := z
  cases rz
  exact wpAny_truthy_bool ⟨.bl b, H', I', rfl, q'⟩
theorem op_notInOwn (S : Spc X C "__contains__" f) (F : FnOk X.prog X.w X.K X.mg X.base CX n f fd ps sp) (hr : Room n X.A) (hb : Binds X.K fd ps []) (hx : Passes CX X E) : OpR X (compareOp .NotIn) (rNotInOwn C sp E) := by
  intro pins s σ H x y v u Q I rx ry h
  obtain ⟨a, rfl, hi, q⟩ := h
  cases ry
  obtain ⟨ox, od, J⟩ := ins_at I hi
  obtain ⟨m, hF⟩ := I.fr
  refine PySem.W.notIn_K hF I.ok.mod.kin J S.at_ S.fn (wpAny_mono (run_at (vs := [.ref a, x]) F hb hx ⟨hr, rfl⟩ I (.cons rfl (.cons rx .nil)) q) (fun r s' z => ?_) fun _ _ e => e)
  obtain ⟨z, H', I', rz, b, rfl, q'⟩ := z
  cases rz
  exact wpAny_truthy_bool ⟨.bl (!b), H', I', rfl, q'⟩
/-- o == p, by an own __eq__ that answers a bool -/
def rEqOwn (C : Addr) (sp : Sp) (E : XK) : R2 := fun x y H Q => ∃ a b, x = .ref a ∧ y = .ref b ∧ IsIns H a C ∧ IsIns H b C ∧ sp [.ref a, .ref b] H (boolQ Q) E
theorem op_eqOwn (S : Spc X C "__eq__" f) (F : FnOk X.prog X.w X.K X.mg X.base CX n f fd ps sp) (hr : Room n X.A) (hb : Binds X.K fd ps []) (hx : Passes CX X E) : OpR X (compareOp .Eq) (rEqOwn C sp E) := by
  intro pins s σ H x y v u Q I rx ry h
  obtain ⟨a, b, rfl, rfl, hi, hi', q⟩ := h
  cases rx
  cases ry
  obtain ⟨ox, od, J⟩ := ins_at I hi
  obtain ⟨ox', od', J'⟩ := ins_at I hi'
  obtain ⟨m, hF⟩ := I.fr
  show wpAny (model X.prog X.w) X.A (richCompare .Eq (.ref a) (.ref b)) (EP X pins σ Q) X.xe s
  refine PySem.W.cmp_K (op := .Eq) (tb := .ref C) hr.units0 hF I.ok.mod.kin J J'.type (by simp [PySem.W.notFirst]) S.at_ S.fn (wpAny_mono (run_at (vs := [.ref a, .ref b]) F hb hx ⟨hr, rfl⟩ I (.cons rfl (.cons rfl .nil)) q) (fun r s' z => ?_) fun _ _ e => e)
  obtain ⟨z, H', I', rz, b, rfl, q'⟩ := z
  cases rz
  exact ⟨.bl b, H', I', rfl, q'⟩
/-- o | p, o - p, by an own method that answers a reference -/
def refQ (Q : VK) : VK := fun r H' => ∃ p, r = .ref p ∧ Q (.ref p) H'
def rBinOwn (C : Addr) (sp : Sp) (E : XK) : R2 := fun x y H Q => ∃ a b, x = .ref a ∧ y = .ref b ∧ IsIns H a C ∧ IsIns H b C ∧ sp [.ref a, .ref b] H (refQ Q) E
theorem op_binOwn {op : Operator} (S : Spc X C (PySem.dunder op.info.2) f) (sf : PySem.W.selfFirst X.K C = true) (F : FnOk X.prog X.w X.K X.mg X.base CX n f fd ps sp) (hr : Room n X.A) (hb : Binds X.K fd ps []) (hx : Passes CX X E) : OpR X (binaryOp op) (rBinOwn C sp E) := by
  intro pins s σ H x y v u Q I rx ry h
  obtain ⟨a, b, rfl, rfl, hi, hi', q⟩ := h
  cases rx
  cases ry
  obtain ⟨ox, od, J⟩ := ins_at I hi
  obtain ⟨ox', od', J'⟩ := ins_at I hi'
  obtain ⟨m, hF⟩ := I.fr
  refine PySem.W.binop_K hF I.ok.mod.kin J J'.type sf S.at_ S.fn (wpAny_mono (run_at (vs := [.ref a, .ref b]) F hb hx ⟨hr, rfl⟩ I (.cons rfl (.cons rfl .nil)) q) (fun r s' z => ?_) fun _ _ e => e)
  obtain ⟨z, H', I', rz, p, rfl, q'⟩ := z
  cases rz
  exact ⟨.ref p, H', I', rfl, q'⟩
/-- o[k] = v, by an own __setitem__ -/
def rSetOwn (C : Addr) (sp : Sp) (E : XK) : TSet := fun o i v H Q => ∃ a, o = .ref a ∧ IsIns H a C ∧ sp [.ref a, i, v] H (fun _ H' => Q H') E
theorem set_own (S : Spc X C "__setitem__" f) (nq : PySem.W.noSeq X.K C = true) (F : FnOk X.prog X.w X.K X.mg X.base CX n f fd ps sp) (hr : Room n X.A) (hb : Binds X.K fd ps []) (hx : Passes CX X E) : PSet X (rSetOwn C sp E) := by
  intro pins s σ H o i v ov iv u Q I ro ri rv h
  obtain ⟨a, rfl, hi, q⟩ := h
  cases ro
  obtain ⟨ox, od, J⟩ := ins_at I hi
  obtain ⟨m, hF⟩ := I.fr
  refine PySem.W.ksp_setItem hF I.ok.mod.kin J nq S.at_ S.fn (wpAny_mono (run_at (vs := [.ref a, i, v]) F hb hx ⟨hr, rfl⟩ I (.cons rfl (.cons ri (.cons rv .nil))) q) (fun r s' z => ?_) fun _ _ e => e)
  obtain ⟨z, H', I', rz, q'⟩ := z
  exact ⟨H', I', q'⟩
/-- o[k], by an own __getitem__ -/
def rIxOwn (C : Addr) (sp : Sp) (E : XK) : R2 := fun x y H Q => ∃ a, x = .ref a ∧ IsIns H a C ∧ sp [.ref a, y] H Q E
theorem pe_ixOwn {a b : Expr} {pos : Pos} {ta tb : TE} (S : Spc X C "__getitem__" f) (hfn : PySem.W.fnIn X.K f = true) (F : FnOk X.prog X.w X.K X.mg X.base CX n f fd ps sp) (hr : Room (n + 1) X.A) (hb : Binds X.K fd ps []) (hx : Passes CX X E) (ha : PE X a ta) (he : PE X b tb)
    (hs : ∀ x i, subscripted b true (.ref x) i = runValue (.builtin "lifetime.subscript" ⟨[.ref x, i], []⟩)) : PE X (.Subscript a b pos) (tOp (rIxOwn C sp E) ta tb) := by
  refine ⟨fun pins s σ H Q I h => ?_⟩
  refine PyProof.Rows.Subscript_ (binT ha he I h fun v u s2 x y H2 I2 rx ry q => ?_)
  obtain ⟨o, rfl, hi, q⟩ := q
  cases rx
  obtain ⟨ox, od, J⟩ := ins_at I2 hi
  obtain ⟨m, hF⟩ := I2.fr
  exact PySem.W.sub_K hF I2.ok.mod.kin J S.at_ hfn S.fn (run_at (vs := [.ref o, y]) F hb hx ⟨hr.in1, rfl⟩ I2 (.cons rfl (.cons ry .nil)) q) (hs _ _)
end
/-! != where the class has an own == and no own != -/
section
variable {prog : Program} {w : World} {A : Around} {E : Value → Shared → Prop} {s : Shared} {K : PySem.W.Frag} {x y C f : Addr} {ox : Obj} {od : Option Obj}
theorem objNe_K {b : Value} {Q : Fin → Shared → Prop} (X : K.In s.heap) (I : PySem.W.InstAt s.heap x ox C od) (hu : A.units < cLine) (hs : PySem.W.findIn K (.ref C) "__eq__" = some (some (.ref f))) (hf : PySem.W.isFn K (.ref f) = true)
    (h : wpAny (model prog w) A (call (.ref f) [.ref x, b]) (fun v s' => ∃ r, v = .bool r ∧ Q (.done (.ret (.bool (!r)))) s') E s) :
    wpAny (model prog w) A (Builtin.«object.__ne__» ⟨[.ref x, b], []⟩) Q E s := by
  unfold Builtin.«object.__ne__»
  repeat (first
    | with_reducible refine wpAny_cRoomFor hu ?_
    | (refine wpAny_bind (m := callSpecialIfBound? (.ref x) (Str.ofString "__eq__") [b])
        (PySem.W.ifBound_K X I hs hf (wpAny_mono h (fun v s' hv => by
          obtain ⟨r, rfl, hq⟩ := hv
          repeat (first | exact hq | exact wpAny_pure hq | exact wpAny_truthy_bool hq | (refine wpAny_bind (m := truthy (.bool _)) (wpAny_truthy_bool ?_)) | wp_step)) fun _ _ e => e)))
    | wp_step)
theorem ifBoundB_K {M : Model} {name : Str} {id : String} {args : List Value} {Q : Option Value → Shared → Prop} (X : K.In s.heap) (I : PySem.W.InstAt s.heap x ox C od) (hs : PySem.W.findIn K (.ref C) name = some (some (.builtin id)))
    (hb : ∀ self, bindSpecial (.builtin id) self = pure (.builtin id, [self]))
    (h : wpAny M A (call (.builtin id) (.ref x :: args)) (fun v => Q (some v)) E s) : wpAny M A (callSpecialIfBound? (.ref x) name args) Q E s := by
  simp only [callSpecialIfBound?, bindSpecialIfBound?]
  refine wpAny_holding (wpAny_bind (wpAny_bind (wpAny_bind (I.type.here ((PySem.W.looks_findIn X hs).here ?_)))))
  refine wpAny_bind (wpAny_askSetting (wpAny_ite ?_))
  have fin : wpAny M A (call (.builtin id) ([.ref x] ++ args) >>= fun v => pure (some v)) Q E s := wpAny_bind (wpAny_mono h (fun v s' h' => wpAny_pure h') fun _ _ h' => h')
  split
  · rw [hb]
    exact wpAny_bind (wpAny_pure (wpAny_pure (by exact fin)))
  · rw [hb]
    exact wpAny_tryCatch (wpAny_bind (wpAny_pure (wpAny_pure (by exact fin))))
theorem ne_K {Q : Value → Shared → Prop} {b : Value} (hu : A.units + 1 < cLine) (X : K.In s.heap) (I : PySem.W.InstAt s.heap x ox C od) (hb : PySem.W.Looks (model prog w) s.heap (typeOf b) (.ref C))
    (hn : PySem.W.findIn K (.ref C) "__ne__" = some (some (.builtin "object.__ne__"))) (ho : PySem.W.subIn K (.ref C) (.type "object") = some true) (hs : PySem.W.findIn K (.ref C) "__eq__" = some (some (.ref f))) (hf : PySem.W.isFn K (.ref f) = true)
    (h : wpAny (model prog w) A.in1 (call (.ref f) [.ref x, b]) (fun v s' => ∃ r, v = .bool r ∧ Q (.bool (!r)) s') E s) : wpAny (model prog w) A (richCompare .NotEq (.ref x) b) Q E s := by
  have one : wpAny (model prog w) A (tryCompare (.ref x) "__ne__" b) (fun r s' => ∃ v, r = some v ∧ Q v s') E s := by
    unfold tryCompare
    refine wpAny_bind (ifBoundB_K X I hn F.cmp_object.ne.bind ?_)
    refine wpAny_call (codeAny_call_builtin F.cmp_object.ne.plain F.cmpEntry_ne (PySem.W.check_slot F.cmpKind_ne F.cmpSplit_ne (I.type.andThen (PySem.W.looks_subIn X ho)) (F.cmpArgs_ne _ _) ?_))
    refine objNe_K (A := A.in1) X I (by exact hu) hs hf (wpAny_mono h (fun v s' hv => ?_) fun _ _ e => e)
    obtain ⟨r, rfl, hq⟩ := hv
    exact ⟨r, rfl, wpAny_pure ⟨_, rfl, hq⟩⟩
  unfold richCompare
  simp only [oneThing_ref]
  refine wpAny_holding (wpAny_bind (wpAny_cRoomFor (Nat.lt_of_succ_lt hu) ?_))
  rw [cmpInfo_NotEq]
  dsimp only
  refine wpAny_bind (I.type.here (wpAny_bind (hb.here ?_)))
  rw [show (Value.ref C != Value.ref C) = false from by simp]
  simp only [Bool.false_eq_true, if_false]
  refine wpAny_bind (wpAny_pure ?_)
  simp only [Bool.false_eq_true, if_false]
  refine wpAny_bind (wpAny_mono one (fun r s' z => ?_) fun _ _ e => e)
  obtain ⟨v, rfl, hq⟩ := z
  exact wpAny_pure hq
end
section
variable {X : Cx} {CX : CXT} {n : Nat} {f C : Addr} {fd : FuncData} {ps : List Str} {sp : Sp} {E : XK}
def rNeOwn (C : Addr) (sp : Sp) (E : XK) : R2 := fun x y H Q => ∃ a b, x = .ref a ∧ y = .ref b ∧ IsIns H a C ∧ IsIns H b C ∧ sp [.ref a, .ref b] H (notQ Q) E
theorem op_neOwn (S : Spc X C "__eq__" f) (hn : PySem.W.findIn X.K (.ref C) "__ne__" = some (some (.builtin "object.__ne__"))) (ho : PySem.W.subIn X.K (.ref C) (.type "object") = some true) (F : FnOk X.prog X.w X.K X.mg X.base CX n f fd ps sp)
    (hr : Room (n + 1) X.A) (hb : Binds X.K fd ps []) (hx : Passes CX X E) : OpR X (compareOp .NotEq) (rNeOwn C sp E) := by
  intro pins s σ H x y v u Q I rx ry h
  obtain ⟨a, b, rfl, rfl, hi, hi', q⟩ := h
  cases rx
  cases ry
  obtain ⟨ox, od, J⟩ := ins_at I hi
  obtain ⟨ox', od', J'⟩ := ins_at I hi'
  show wpAny (model X.prog X.w) X.A (richCompare .NotEq (.ref a) (.ref b)) (EP X pins σ Q) X.xe s
  refine ne_K (by have := hr.un; omega) I.kIn J J'.type hn ho S.at_ S.fn (wpAny_mono (run_at (vs := [.ref a, .ref b]) F hb hx ⟨hr.in1, rfl⟩ I (.cons rfl (.cons rfl .nil)) q) (fun r s' z => ?_) fun _ _ e => e)
  obtain ⟨z, H', I', rz, r, rfl, q'⟩ := z
  cases rz
  exact ⟨r, rfl, .bl (!r), H', I', rfl, q'⟩
end
end Q
namespace Q
open PySem L2 PySem.Spec PyProof.Rows
section
variable {X : Cx}
/-- a call that lets no error out, whatever is wanted of errors -/
theorem cP0_ok {c : C0} {W : Wd} {st : Ps} {σ : L2.St} {H : Hp} {np : Nat} {m : MF} {rs : List R} {vs : List V} {Q : VK} {Q1 : O → Ps → Prop} (E' : XK) (P : Pre c W st σ H) (r : RVs W σ H vs rs) (h : cP np m E0k st rs Q1)
    (k : ∀ o st' v W' H2, Q1 o st' → Step c.rw W H W' H2 → Pre c W' st' σ H2 → OV c W' st' σ H2 v o → Q v (lockH W'.L H2)) : spM false np m vs (lockH W.L H) Q E' := by
  have h0 := cP_ok (c := { c with E := E0k }) (P.ctx rfl rfl rfl fun _ z => z) r h (Q := Q) fun o st' v W' H2 q s P' ov => k o st' v W' H2 q s (P'.ctx rfl rfl rfl fun _ z => z) (by
    cases o with
    | un => exact ov
    | d x => exact ov
    | lst _ => exact ov
    | dK _ => exact ov
    | dT _ => exact ov
    | ins _ _ _ => exact ov)
  obtain ⟨W1, S1, H1, ds, Q0, E0, a1, a2, a3, a4, a5, a6, a7⟩ := h0
  refine ⟨W1, S1, H1, ds, Q0, E0, a1, a2, a3, a4, a5, a6, fun C fs S' od W' H2 e s n B el ex => ?_⟩
  obtain ⟨_, st', _, _, _, _, _, _, _, z⟩ := a7 C fs S' od W' H2 e s n B el ex
  exact z.elim
theorem cE0_ok {c : C0} {W : Wd} {st : Ps} {σ : L2.St} {H : Hp} {rw : Bool} {np : Nat} {m : MF} {rs : List R} {vs : List V} {Q : VK} {Q1 : O → Ps → Prop} (E' : XK) (P : Pre c W st σ H) (r : RVs W σ H vs rs) (h : cE rw np m E0k st rs Q1)
    (k : ∀ o st' v W' H2, Q1 o st' → Step c.rw W H W' H2 → Pre c W' st' σ H2 → OV c W' st' σ H2 v o → Q v (lockH W'.L H2)) : spM rw np m vs (lockH W.L H) Q E' := by
  have h0 := cE_ok (c := { c with E := E0k }) (P.ctx rfl rfl rfl fun _ z => z) r h (Q := Q) fun o st' v W' H2 q s P' ov => k o st' v W' H2 q s (P'.ctx rfl rfl rfl fun _ z => z) (by
    cases o with
    | un => exact ov
    | d x => exact ov
    | lst _ => exact ov
    | dK _ => exact ov
    | dT _ => exact ov
    | ins _ _ _ => exact ov)
  obtain ⟨W1, S1, H1, ds, Q0, E0, a1, a2, a3, a4, a5, a6, a7⟩ := h0
  refine ⟨W1, S1, H1, ds, Q0, E0, a1, a2, a3, a4, a5, a6, fun C fs S' od W' H2 e s n B el ex => ?_⟩
  obtain ⟨_, st', _, _, _, _, _, _, _, z⟩ := a7 C fs S' od W' H2 e s n B el ex
  exact z.elim
/-! ### which class -/
def clsOf (st : Ps) (r : R) (m : Str) : Option Addr := match look st r with
  | some (.ins C fs) => if (fs.lookup m).isNone then some C else none
  | some (.cell n) => match st.S[n]? with
    | some (.db _ C _ _) => if m == "own_schema" || m == "own_rows" then none else some C
    | _ => none
  | _ => none
theorem RepF.lookup_none {φ F H} {f : Str} : ∀ {vs : List (Str × V)} {ds : List (Str × D)}, RepF φ F H vs ds → (ds.lookup f).isNone = true → vs.lookup f = none
  | _, _, .nil, _ => rfl
  | _, _, .cons (k := k) h t, e => by
    rw [List.lookup_cons] at e ⊢
    cases q : f == k with
    | true => rw [q] at e; cases e
    | false => rw [q] at e; exact t.lookup_none e
theorem cls_at {c : C0} {W : Wd} {st : Ps} {σ : L2.St} {H : Hp} (P : Pre c W st σ H) {r : R} {v : V} {m : Str} {C : Addr} (rv : RV W σ H v r) (e : clsOf st r m = some C) : ∃ a dx fs, v = .ref a ∧ lockH W.L H a = some (.ins C dx fs) ∧ fs.lookup m = none := by
  unfold clsOf at e
  split at e
  · rename_i C' fs hl
    have t := P.top rv hl
    split at e
    · rename_i hn
      cases e
      cases t with
      | ins h1 r1 => exact ⟨_, _, _, rfl, P.nol h1 rfl, r1.lookup_none hn⟩
    · cases e
  · rename_i n hl
    have t := P.top rv hl
    split at e
    · rename_i x0 C' sch rows hS
      split at e
      · cases e
      · rename_i hm
        cases e
        cases t with
        | cell e1 =>
          have hl := P.base.len
          have hn := (List.getElem?_eq_some_iff.mp e1).1
          obtain ⟨dx, vs, kvs, ts, _, _, h2, h3, _⟩ := P.base.cell n _ _ _ e1 hS (List.getElem?_eq_getElem (by omega))
          refine ⟨_, _, _, rfl, P.nol h2 rfl, ?_⟩
          rw [Bool.or_eq_true, not_or] at hm
          rw [List.lookup_cons, Bool.eq_false_iff.mpr hm.1, List.lookup_cons, Bool.eq_false_iff.mpr hm.2]
          rfl
    · cases e
  · cases e
/-! ### o.m(..) -/
/-- a method of a class, as it may be called here -/
abbrev FnS (X : Cx) (k : Nat) (f : Addr) (sp : Sp) : Prop := FnR X.prog X.w X.K X.mg X.base (L2.CX X.prog X.w) k f sp
theorem run_S {k : Nat} {f : Addr} {sp : Sp} {E : L2.St → XK} {pins : List (Addr × Obj)} {σ : L2.St} {H : Hp} {s : Shared} {Q : VK} {us : List Value} {vs : List V} (F : FnS X k f sp) (hr : Room k X.A) (hx : PassesAt (L2.CX X.prog X.w) X σ (E σ)) (I : L2.Inv X pins σ H s) (r : Vals vs us) (h : sp vs H Q (E σ)) : wpAny (model X.prog X.w) X.A (call (.ref f) us) (EP X pins σ Q) X.xe s :=
  wpAny_call (codeAny_mono (F X.A X.stack s H us vs Q (E σ) hr I.env0 r h) fun q s' hq => by
    cases q with
    | error e => exact hx pins H s e s' I hq
    | ok fl =>
      cases fl with
      | ret u => exact I.after hq
      | next => exact hq.elim
      | brk => exact hq.elim
      | cont => exact hq.elim)
theorem fnS_of {k : Nat} {f : Addr} {fd : FuncData} {ps : List Str} {sp : Sp} (F : FnOk X.prog X.w X.K X.mg X.base (L2.CX X.prog X.w) k f fd ps sp) (hb : Binds X.K fd ps []) : FnS X k f sp := (F.raw hb .nil).imp fun vs H Q E h => by rw [List.append_nil]; exact h
def Cand (X : Cx) (m : Str) (C : Addr) (sp : Sp) : Prop := ∃ (f : Addr) (k : Nat), Cls X.K C ∧ Meth X.K C m f ∧ FnS X k f sp ∧ Room k X.A
def tMC (X : Cx) (m : Str) (Ew : WX) (ta : TE) (t : TA) : TE := fun σ H Q => ta σ H fun x H1 => ∃ a C dx fs sp, x = .ref a ∧ H1 a = some (.ins C dx fs) ∧ Cand X m C sp ∧ fs.lookup m = none ∧ t σ H1 fun vs H2 => sp (x :: vs) H2 Q (WE Ew σ)
theorem pe_mC {o e : Expr} {es : List Expr} {m : Str} {apos pos : Pos} {ta : TE} {t : TA} {pl : Sem Bool} (Ew : WX) (tk : Takes X Ew) (he : PE X o ta) (ha : PA X (e :: es) t) (hst : starEach (e :: es) X.env = (false, eval e X.env) :: starEach es X.env := by rfl) (hpl : (backTo pos (starEach es X.env)).any (·.1) = false := by rfl)
    (ht : eval (.Call (.Attribute o m apos) (e :: es) [] pos) X.env = (do let ov ← eval o X.env; standAt apos.atName; let (f, first) ← holding [ov] (getMethod ov m pl); callWith pos f first (backTo pos (starEach (e :: es) X.env)) (backToKw pos (keywordEach [] X.env))) := by rfl) :
    PE X (.Call (.Attribute o m apos) (e :: es) [] pos) (tMC X m Ew ta t) := ⟨fun pins s σ H Q I h => by
  refine PySem.W.methodCall_KW (pl := pl) (thn (he.run pins s σ H _ I h) fun u s1 ⟨x, H1, I1, rx, a, C, dx, fs, sp, ex, ea, cd, l, q⟩ => ?_) ht
  subst ex
  obtain rfl : u = Value.ref a := rx
  obtain ⟨f, k, c, hm, F, hr⟩ := cd
  refine getmeth_ok I1 ea c hm l (PySem.W.callWith_K (first := [.ref a]) (h₀ := X.base) I.ok.mod.kin hm.kp (thn (ha.run pos pins s1 σ H1 _ I1 q) fun us s2 ⟨vs, H2, I2, r, q2⟩ => ⟨I2.kIn, ?_⟩) hst hpl)
  exact run_S (us := .ref a :: us) (vs := .ref a :: vs) (E := WE Ew) F hr (passAt tk σ) I2 (.cons rfl r) q2⟩
theorem pe_mC0 {o : Expr} {m : Str} {apos pos : Pos} {ta : TE} {pl : Sem Bool} (Ew : WX) (tk : Takes X Ew) (he : PE X o ta)
    (ht : eval (.Call (.Attribute o m apos) [] [] pos) X.env = (do let ov ← eval o X.env; standAt apos.atName; let (f, first) ← holding [ov] (getMethod ov m pl); callWith pos f first (backTo pos (starEach [] X.env)) (backToKw pos (keywordEach [] X.env))) := by rfl) :
    PE X (.Call (.Attribute o m apos) [] [] pos) (tMC X m Ew ta tNil) := ⟨fun pins s σ H Q I h => by
  refine PySem.W.methodCall_KW (pl := pl) (thn (he.run pins s σ H _ I h) fun u s1 ⟨x, H1, I1, rx, a, C, dx, fs, sp, ex, ea, cd, l, q⟩ => ?_) ht
  subst ex
  obtain rfl : u = Value.ref a := rx
  obtain ⟨f, k, c, hm, F, hr⟩ := cd
  refine getmeth_ok I1 ea c hm l (PySem.W.callWith_K0 (first := [.ref a]) I1.kIn hm.kp ?_)
  exact run_S (us := [.ref a]) (vs := [.ref a]) (E := WE Ew) F hr (passAt tk σ) I1 (.cons rfl .nil) q⟩
/-- which function a class's method is: (may change the store, number of parameters, the function) -/
abbrev MT := Addr → Option (Bool × Nat × MF)
def xM (m : Str) (mt : MT) (f : Ex) (ga : Ax) : Ox := fun E st Q => f E st fun r st1 => opt (clsOf st1 r m) fun C => opt (mt C) fun z => ga E st1 fun rs st2 => if z.1 = true then cE true z.2.1 z.2.2 E st2 (r :: rs) Q else cP z.2.1 z.2.2 E st2 (r :: rs) Q
def MtOk (X : Cx) (m : Str) (mt : MT) : Prop := ∀ C z, mt C = some z → Cand X m C (spM z.1 z.2.1 z.2.2)
def MethSp (X : Cx) (ee o : Expr) (es : List Expr) (m : Str) : Prop := ∀ (Ew : WX), Takes X Ew → ∀ {ta : TE} {t : TA}, PE X o ta → PA X es t → PE X ee (tMC X m Ew ta t)
theorem po_M {ee o : Expr} {es : List Expr} {m : Str} {mt : MT} {f : Ex} {ga : Ax} (hm : MtOk X m mt) (h : MethSp X ee o es m) (ho : PX X o f) (ha : PXA X es ga) : PO X ee (xM m mt f ga) := fun c l => peOf (h (wish c) l (ho c l) (ha c l)) fun σ H Q ⟨W, st, H1, Q0, hH, P, q, k⟩ =>
  ⟨W, st, H1, _, hH, P, q, fun r st1 v W1 H2 q1 s1 P1 rv => by
    obtain ⟨C, e1, q1⟩ := opt_ex q1
    obtain ⟨z, e2, q1⟩ := opt_ex q1
    obtain ⟨a, dx, fs, rfl, ha, hl⟩ := cls_at P1 rv e1
    refine ⟨a, C, dx, fs, _, rfl, ha, hm C z e2, hl, W1, st1, H2, _, rfl, P1, q1, fun rs st2 vs W2 H3 q2 s2 P2 rvs => ?_⟩
    obtain ⟨b, np, mf⟩ := z
    dsimp only at q2 ⊢
    cases b with
    | true =>
      rw [if_pos rfl] at q2
      exact cE_ok P2 (.cons (rv.step P1 s2) rvs) q2 fun o st' v W' H4 q0 s P' ov => k _ _ _ _ _ q0 ((s1.trans s2).trans s) P' ov
    | false =>
      rw [if_neg Bool.false_ne_true] at q2
      exact cP_ok P2 (.cons (rv.step P1 s2) rvs) q2 fun o st' v W' H4 q0 s P' ov => k _ _ _ _ _ q0 ((s1.trans s2).trans s) P' ov⟩
theorem pa_nilX : PXA X [] xNil := pxa_nil
theorem peM0 {ee o : Expr} {m : Str} (h : ∀ (Ew : WX), Takes X Ew → ∀ {ta : TE}, PE X o ta → PE X ee (tMC X m Ew ta tNil)) {mt : MT} {f : Ex} (hm : MtOk X m mt) (ho : PX X o f) : PO X ee (xM m mt f xNil) := fun c l => peOf (h (wish c) l (ho c l)) fun σ H Q ⟨W, st, H1, Q0, hH, P, q, k⟩ =>
  ⟨W, st, H1, _, hH, P, q, fun r st1 v W1 H2 q1 s1 P1 rv => by
    obtain ⟨C, e1, q1⟩ := opt_ex q1
    obtain ⟨z, e2, q1⟩ := opt_ex q1
    obtain ⟨a, dx, fs, rfl, ha, hl⟩ := cls_at P1 rv e1
    refine ⟨a, C, dx, fs, _, rfl, ha, hm C z e2, hl, ?_⟩
    obtain ⟨b, np, mf⟩ := z
    have q2 : if b = true then cE true np mf c.E st1 [r] Q0 else cP np mf c.E st1 [r] Q0 := q1
    show spM b np mf [V.ref a] (lockH W1.L H2) Q (WE (wish c) σ)
    cases b with
    | true =>
      rw [if_pos rfl] at q2
      exact cE_ok P1 (.cons rv .nil) q2 fun o st' v W' H4 q0 s P' ov => k _ _ _ _ _ q0 (s1.trans s) P' ov
    | false =>
      rw [if_neg Bool.false_ne_true] at q2
      exact cP_ok P1 (.cons rv .nil) q2 fun o st' v W' H4 q0 s P' ov => k _ _ _ _ _ q0 (s1.trans s) P' ov⟩
end
end Q
namespace Q
open PySem L2 PySem.Spec PyProof.Rows
section
variable {X : Cx}
/-! ### signs that call own methods (no error leaves them) -/
def cA (z : Bool × Nat × MF) (st : Ps) (rs : List R) (Q : O → Ps → Prop) : Prop := if z.1 = true then cE true z.2.1 z.2.2 E0k st rs Q else cP z.2.1 z.2.2 E0k st rs Q
theorem cA_ok {c : C0} {W : Wd} {st : Ps} {σ : L2.St} {H : Hp} {z : Bool × Nat × MF} {rs : List R} {vs : List V} {Q : VK} {Q1 : O → Ps → Prop} (E' : XK) (P : Pre c W st σ H) (r : RVs W σ H vs rs) (h : cA z st rs Q1)
    (k : ∀ o st' v W' H2, Q1 o st' → Step c.rw W H W' H2 → Pre c W' st' σ H2 → OV c W' st' σ H2 v o → Q v (lockH W'.L H2)) : spM z.1 z.2.1 z.2.2 vs (lockH W.L H) Q E' := by
  obtain ⟨b, np, mf⟩ := z
  unfold cA at h
  cases b with
  | true =>
    rw [if_pos rfl] at h
    exact cE0_ok E' P r h k
  | false =>
    rw [if_neg Bool.false_ne_true] at h
    exact cP0_ok E' P r h k
theorem OpR.ex {f : Value → Value → Sem Value} {α : Type} {r : α → V → V → Hp → VK → Prop} (h : ∀ i, OpR X f (r i)) : OpR X f (fun x y H Q => ∃ i, r i x y H Q) := fun pins s σ H x y v u Q I rx ry ⟨i, q⟩ => h i pins s σ H x y v u Q I rx ry q
def inQ (n : Bool) (Q : VK) : VK := if n then notQ Q else boolQ Q
/-- a class whose method m may be called by a sign -/
structure Sgn (X : Cx) (m : Str) (C : Addr) (z : Bool × Nat × MF) (lv : Nat) : Prop where
  ex : ∃ (f : Addr) (fd : FuncData) (ps : List Str) (k : Nat), Spc X C m f ∧ FnOk X.prog X.w X.K X.mg X.base (L2.CX X.prog X.w) k f fd ps (spM z.1 z.2.1 z.2.2) ∧ Room (k + lv) X.A ∧ Binds X.K fd ps []
def Sgns (X : Cx) (m : Str) (mt : MT) (lv : Nat) : Prop := ∀ C z, mt C = some z → Sgn X m C z lv
def rInMT (mt : MT) (n : Bool) : V → V → Hp → VK → Prop := fun x y H Q => ∃ i : { p : Addr × (Bool × Nat × MF) // mt p.1 = some p.2 }, (if n then rNotInOwn i.1.1 (spM i.1.2.1 i.1.2.2.1 i.1.2.2.2) E0 x y H Q else rInOwn i.1.1 (spM i.1.2.1 i.1.2.2.1 i.1.2.2.2) E0 x y H Q)
theorem op_inMT {mt : MT} (h : Sgns X "__contains__" mt 0) : OpR X (compareOp .In) (rInMT mt false) := OpR.ex fun i => by
  obtain ⟨f, fd, ps, k, S, F, hr, hb⟩ := (h i.1.1 i.1.2 i.2).ex
  exact op_inOwn S F hr hb passL
theorem op_notInMT {mt : MT} (h : Sgns X "__contains__" mt 0) : OpR X (compareOp .NotIn) (rInMT mt true) := OpR.ex fun i => by
  obtain ⟨f, fd, ps, k, S, F, hr, hb⟩ := (h i.1.1 i.1.2 i.2).ex
  exact op_notInOwn S F hr hb passL
def xInS (mt : MT) (n : Bool) (f1 f2 : Ex) : Ox := fun E st Q => f1 E st fun r1 st1 => f2 E st1 fun r2 st2 => opt (clsOf st2 r2 "__contains__") fun C => opt (mt C) fun z => cA z st2 [r2, r1] fun o st3 => opt (isB o) fun b => Q (.d (.bl (if n then !b else b))) st3
theorem po_inS {a b ee : Expr} {mt : MT} {n : Bool} {f1 f2 : Ex} (h : ∀ {t1 t2 : TE}, PE X a t1 → PE X b t2 → PE X ee (tOp (rInMT mt n) t1 t2)) (h1 : PX X a f1) (h2 : PX X b f2) : PO X ee (xInS mt n f1 f2) := fun c l => peOf (h (h1 c l) (h2 c l)) fun σ H Q ⟨W, st, H1, Q0, hH, P, q, k⟩ =>
  ⟨W, st, H1, _, hH, P, q, fun r1 st1 v1 W1 H2 q1 s1 P1 rv1 => ⟨W1, st1, H2, _, rfl, P1, q1, fun r2 st2 v2 W2 H3 q2 s2 P2 rv2 => by
    obtain ⟨C, e1, q2⟩ := opt_ex q2
    obtain ⟨z, e2, q2⟩ := opt_ex q2
    obtain ⟨p, dx, fs, rfl, hp, _⟩ := cls_at P2 rv2 e1
    refine ⟨⟨(C, z), e2⟩, ?_⟩
    have go : ∀ (Q' : VK), (∀ b H, Q (.bl (if n then !b else b)) H → Q' (.bl b) H) → spM z.1 z.2.1 z.2.2 [.ref p, v1] (lockH W2.L H3) Q' E0 := fun Q' hQ => by
      refine cA_ok E0 P2 (.cons rv2 (.cons (rv1.step P1 s2) .nil)) q2 fun o st3 v W3 H4 q3 s3 P3 ov => ?_
      obtain ⟨b, e3, q3⟩ := opt_ex q3
      have := ov_bl ov e3
      subst this
      exact hQ b _ (k _ _ _ _ _ q3 ((s1.trans s2).trans s3) P3 (.bl _ : Rp W3 H4 _ (.bl _)))
    cases n with
    | true => exact ⟨p, rfl, ⟨dx, fs, hp⟩, go _ fun b H hq => ⟨b, rfl, hq⟩⟩
    | false => exact ⟨p, rfl, ⟨dx, fs, hp⟩, go _ fun b H hq => ⟨b, rfl, hq⟩⟩⟩⟩
theorem pxt_O {a b ee : Expr} {r : V → V → Hp → VK → Prop} {f1 f2 : Ex} {g : Ox} (h : ∀ {t1 t2 : TE}, PE X a t1 → PE X b t2 → PT X ee (tTest (tOp r t1 t2))) (h1 : PX X a f1) (h2 : PX X b f2) (hg : ∀ c σ H Q, tO c g σ H Q → tOp r (tX c f1) (tX c f2) σ H Q) : PXT X ee (xTO g) := fun c l => ptOf (h (h1 c l) (h2 c l)) fun σ H Q ⟨W, st, H1, Q0, hH, P, q, k⟩ =>
  hg c σ H _ ⟨W, st, H1, _, hH, P, q, fun o st1 v W1 H2 q1 s1 P1 ov => by
    obtain ⟨d, e1, q1⟩ := opt_ex q1
    exact ⟨d, ov_bl ov e1, k _ _ _ _ q1 s1 P1⟩⟩
/-! ### o[k] -/
def rIxMT (mt : MT) : V → V → Hp → VK → Prop := fun x y H Q => ∃ i : { p : Addr × (Bool × Nat × MF) // mt p.1 = some p.2 }, rIxOwn i.1.1 (spM i.1.2.1 i.1.2.2.1 i.1.2.2.2) E0 x y H Q
theorem peOrr {ee : Expr} {α : Type} {t : α → TE} (h : ∀ x, PE X ee (t x)) : PE X ee (fun σ H Q => ∃ x, t x σ H Q) := PE.orr h
def xIxS (C : Addr) (z : Bool × Nat × MF) (f1 f2 : Ex) : Ox := fun E st Q => f1 E st fun r1 st1 => f2 E st1 fun r2 st2 => clsOf st2 r1 "__getitem__" = some C ∧ cA z st2 [r1, r2] Q
theorem po_ixS {a b ee : Expr} {C : Addr} {z : Bool × Nat × MF} {f1 f2 : Ex} (h : ∀ {t1 t2 : TE}, PE X a t1 → PE X b t2 → PE X ee (tOp (rIxOwn C (spM z.1 z.2.1 z.2.2) E0) t1 t2)) (h1 : PX X a f1) (h2 : PX X b f2) : PO X ee (xIxS C z f1 f2) := fun c l => peOf (h (h1 c l) (h2 c l)) fun σ H Q ⟨W, st, H1, Q0, hH, P, q, k⟩ =>
  ⟨W, st, H1, _, hH, P, q, fun r1 st1 v1 W1 H2 q1 s1 P1 rv1 => ⟨W1, st1, H2, _, rfl, P1, q1, fun r2 st2 v2 W2 H3 q2 s2 P2 rv2 => by
    obtain ⟨p, dx, fs, rfl, hp, _⟩ := cls_at P2 (rv1.step P1 s2) q2.1
    exact ⟨p, rfl, ⟨dx, fs, hp⟩, cA_ok E0 P2 (.cons (rv1.step P1 s2) (.cons rv2 .nil)) q2.2 fun o st3 v W3 H4 q3 s3 P3 ov => k _ _ _ _ _ q3 ((s1.trans s2).trans s3) P3 ov⟩⟩⟩
/-! ### ==, != of two instances of one class -/
def xEqS (C : Addr) (z : Bool × Nat × MF) (n : Bool) (f1 f2 : Ex) : Ox := fun E st Q => f1 E st fun r1 st1 => f2 E st1 fun r2 st2 => clsOf st2 r1 "__eq__" = some C ∧ clsOf st2 r2 "__eq__" = some C ∧ cA z st2 [r1, r2] fun o st3 => opt (isB o) fun b => Q (.d (.bl (if n then !b else b))) st3
theorem eqS_go {C : Addr} {z : Bool × Nat × MF} {n : Bool} {f1 f2 : Ex} {c : C0} {σ : L2.St} {H : Hp} {Q : VK} (h : tO c (xEqS C z n f1 f2) σ H Q) : tOp (if n then rNeOwn C (spM z.1 z.2.1 z.2.2) E0 else rEqOwn C (spM z.1 z.2.1 z.2.2) E0) (tX c f1) (tX c f2) σ H Q := by
  obtain ⟨W, st, H1, Q0, hH, P, q, k⟩ := h
  refine ⟨W, st, H1, _, hH, P, q, fun r1 st1 v1 W1 H2 q1 s1 P1 rv1 => ⟨W1, st1, H2, _, rfl, P1, q1, fun r2 st2 v2 W2 H3 q2 s2 P2 rv2 => ?_⟩⟩
  obtain ⟨e1, e2, q2⟩ := q2
  obtain ⟨p, dx, fs, rfl, hp, _⟩ := cls_at P2 (rv1.step P1 s2) e1
  obtain ⟨p', dx', fs', rfl, hp', _⟩ := cls_at P2 rv2 e2
  have go : ∀ (Q' : VK), (∀ b H, Q (.bl (if n then !b else b)) H → Q' (.bl b) H) → spM z.1 z.2.1 z.2.2 [.ref p, .ref p'] (lockH W2.L H3) Q' E0 := fun Q' hQ => by
    refine cA_ok E0 P2 (.cons (rv1.step P1 s2) (.cons rv2 .nil)) q2 fun o st3 v W3 H4 q3 s3 P3 ov => ?_
    obtain ⟨b, e3, q3⟩ := opt_ex q3
    have := ov_bl ov e3
    subst this
    exact hQ b _ (k _ _ _ _ _ q3 ((s1.trans s2).trans s3) P3 (.bl _ : Rp W3 H4 _ (.bl _)))
  cases n with
  | true => exact ⟨p, p', rfl, rfl, ⟨dx, fs, hp⟩, ⟨dx', fs', hp'⟩, go _ fun b H hq => ⟨b, rfl, hq⟩⟩
  | false => exact ⟨p, p', rfl, rfl, ⟨dx, fs, hp⟩, ⟨dx', fs', hp'⟩, go _ fun b H hq => ⟨b, rfl, hq⟩⟩
theorem po_eqS {a b ee : Expr} {C : Addr} {z : Bool × Nat × MF} {n : Bool} {f1 f2 : Ex} (h : ∀ {t1 t2 : TE}, PE X a t1 → PE X b t2 → PE X ee (tOp (if n then rNeOwn C (spM z.1 z.2.1 z.2.2) E0 else rEqOwn C (spM z.1 z.2.1 z.2.2) E0) t1 t2)) (h1 : PX X a f1) (h2 : PX X b f2) : PO X ee (xEqS C z n f1 f2) :=
  fun c l => peOf (h (h1 c l) (h2 c l)) fun σ H Q q => eqS_go q
theorem pxt_eqS {a b ee : Expr} {C : Addr} {z : Bool × Nat × MF} {n : Bool} {f1 f2 : Ex} (h : ∀ {t1 t2 : TE}, PE X a t1 → PE X b t2 → PT X ee (tTest (tOp (if n then rNeOwn C (spM z.1 z.2.1 z.2.2) E0 else rEqOwn C (spM z.1 z.2.1 z.2.2) E0) t1 t2))) (h1 : PX X a f1) (h2 : PX X b f2) : PXT X ee (xTO (xEqS C z n f1 f2)) :=
  pxt_O h h1 h2 fun c σ H Q q => eqS_go q
/-! ### o | p, o - p -/
def isRf : O → Bool
  | .d (.ins _ _) => true
  | .d (.cell _) => true
  | _ => false
def xBinS (C : Addr) (z : Bool × Nat × MF) (m : Str) (f1 f2 : Ex) : Ox := fun E st Q => f1 E st fun r1 st1 => f2 E st1 fun r2 st2 => clsOf st2 r1 m = some C ∧ clsOf st2 r2 m = some C ∧ cA z st2 [r1, r2] fun o st3 => isRf o = true ∧ Q o st3
theorem po_binS {a b ee : Expr} {C : Addr} {z : Bool × Nat × MF} {m : Str} {f1 f2 : Ex} (h : ∀ {t1 t2 : TE}, PE X a t1 → PE X b t2 → PE X ee (tOp (rBinOwn C (spM z.1 z.2.1 z.2.2) E0) t1 t2)) (h1 : PX X a f1) (h2 : PX X b f2) : PO X ee (xBinS C z m f1 f2) := fun c l => peOf (h (h1 c l) (h2 c l)) fun σ H Q ⟨W, st, H1, Q0, hH, P, q, k⟩ =>
  ⟨W, st, H1, _, hH, P, q, fun r1 st1 v1 W1 H2 q1 s1 P1 rv1 => ⟨W1, st1, H2, _, rfl, P1, q1, fun r2 st2 v2 W2 H3 q2 s2 P2 rv2 => by
    obtain ⟨e1, e2, q2⟩ := q2
    obtain ⟨p, dx, fs, rfl, hp, _⟩ := cls_at P2 (rv1.step P1 s2) e1
    obtain ⟨p', dx', fs', rfl, hp', _⟩ := cls_at P2 rv2 e2
    refine ⟨p, p', rfl, rfl, ⟨dx, fs, hp⟩, ⟨dx', fs', hp'⟩, cA_ok E0 P2 (.cons (rv1.step P1 s2) (.cons rv2 .nil)) q2 fun o st3 v W3 H4 q3 s3 P3 ov => ?_⟩
    have fin := k _ _ _ _ _ q3.2 ((s1.trans s2).trans s3) P3 ov
    have ho := q3.1
    unfold isRf at ho
    split at ho
    · have ov' : Rp W3 H4 v (.ins _ _) := ov
      cases ov'
      exact ⟨_, rfl, fin⟩
    · have ov' : Rp W3 H4 v (.cell _) := ov
      cases ov'
      exact ⟨_, rfl, fin⟩
    · cases ho⟩⟩
/-! ### o.p, a property -/
def xPr (C : Addr) (z : Bool × Nat × MF) (m : Str) (f : Ex) : Ox := fun E st Q => f E st fun r st1 => clsOf st1 r m = some C ∧ cA z st1 [r] Q
theorem po_pr {e ee : Expr} {C : Addr} {z : Bool × Nat × MF} {m : Str} {f : Ex} (h : ∀ {t : TE}, PE X e t → PE X ee (tProp C (spM z.1 z.2.1 z.2.2) [] E0 t)) (h1 : PX X e f) : PO X ee (xPr C z m f) := fun c l => peOf (h (h1 c l)) fun σ H Q ⟨W, st, H1, Q0, hH, P, q, k⟩ =>
  ⟨W, st, H1, _, hH, P, q, fun r st1 v W1 H2 q1 s1 P1 rv => by
    obtain ⟨p, dx, fs, rfl, hp, _⟩ := cls_at P1 rv q1.1
    exact ⟨p, dx, fs, rfl, hp, cA_ok E0 P1 (.cons rv .nil) q1.2 fun o st3 v W3 H4 q3 s3 P3 ov => k _ _ _ _ _ q3 (s1.trans s3) P3 ov⟩⟩
end
end Q
namespace Q
open PySem L2 PySem.Spec PyProof.Rows
/-! ### an instance's making -/
def hDel (H : Hp) (x : Addr) : Hp := fun a => if a = x then none else H a
theorem del_some {H : Hp} {x a : Addr} {o : HO} (h : hDel H x a = some o) : a ≠ x ∧ H a = some o := by
  unfold hDel at h
  split at h
  · cases h
  · rename_i n
    exact ⟨n, h⟩
theorem del_ne {H : Hp} {x a : Addr} (h : a ≠ x) : hDel H x a = H a := if_neg h
/-- the place of the instance, its fields so far, the arguments -/
abbrev MI := Addr → List (Str × D) → List D → EF → List Cell → (List (Str × D) → List Cell → Prop) → Prop
def spI (C : Addr) (rw : Bool) (np : Nat) (m : MI) : Sp := fun vs H Q E => ∃ W S H1 x dx xs0 fs0 vs' ds Q0 E0, vs = .ref x :: vs' ∧ H = lockH W.L H1 ∧ Base rw W S H1 ∧ H1 x = some (.ins C dx xs0) ∧ RepF W.φ W.F H1 xs0 fs0 ∧ ¬ W.F x ∧ ¬ W.own x ∧ RepL W.φ W.F H1 vs' ds ∧ ds.length = np ∧ m x fs0 ds E0 S Q0 ∧
  (∀ fs S' xs dx' W' H2, Q0 fs S' → Step rw W (hDel H1 x) W' H2 → (∀ a, W'.F a → W.F a ∨ hDel H1 x a = none) → Base rw W' S' H2 → W'.L = W.L → H2 x = some (.ins C dx' xs) → RepF W'.φ W'.F H2 xs fs → ¬ W'.F x → ¬ W'.own x → Q .non (lockH W.L H2)) ∧
  (∀ C fs S' od W' H2, E0 C fs S' → Step rw W (hDel H1 x) W' H2 → (∀ a, W'.F a → W.F a ∨ hDel H1 x a = none) → Base rw W' S' H2 → W'.L = W.L → ExcAt W' H2 od fs → E (.ref C) od (lockH W.L H2))
def endI (x C : Addr) (Q0 : List (Str × D) → List Cell → Prop) (st : Ps) : Prop := match (st.ρ[0]? : Option O) with
  | some (O.ins y C' fs) => y = x ∧ C' = C ∧ Q0 fs st.S
  | _ => False
def mkI (C : Addr) (rw : Bool) (n : Nat) (b : Sx) : MI := fun x fs ds E0 S Q0 => b (fun C fs st => E0 C fs st.S) ⟨endI x C Q0, fun o st => (match o with | .d .non => True | _ => False) ∧ endI x C Q0 st, fun _ => False, fun _ => False⟩ ⟨.ins x C fs :: (ds.map O.d ++ List.replicate (n - 1 - ds.length) .un), S, rw, false⟩
theorem base_del {rw : Bool} {W : Wd} {S : List Cell} {H : Hp} {x : Addr} (B : Base rw W S H) (hF : ¬ W.F x) (ho : ¬ W.own x) (ht : ∀ xs, H x ≠ some (.tup xs)) : Base rw W S (hDel H x) := by
  have ne : ∀ a, W.F a → a ≠ x := fun a h z => hF (by rw [← z]; exact h)
  have f : Fut W.φ W.F H W.φ W.F (hDel H x) := ⟨fun _ _ e => e, fun _ h => h, fun a o h e => by rw [del_ne (ne a h)]; exact e, fun a xs e => by rw [del_ne (fun z => ht xs (by rw [← z]; exact e))]; exact e⟩
  refine ⟨fun a h => ?_, B.len, fun n a c w h1 h2 h3 => ?_, B.apart, B.ownF, B.lN, fun a o h => ?_⟩
  · obtain ⟨o, e⟩ := B.fdom a h
    exact ⟨o, by rw [del_ne (ne a h)]; exact e⟩
  · refine (B.cell n a c w h1 h2 h3).fut f fun y hy => del_ne fun z => ho ⟨w, List.mem_of_getElem? h3, by rw [← z]; exact hy⟩
  · obtain ⟨h1, u, h2, h3⟩ := B.lF a o h
    exact ⟨h1, u, by rw [del_ne (fun z => h1.elim (fun y => ne a y z) fun y => ho (by rw [← z]; exact y.2))]; exact h2, h3⟩
theorem preI {W : Wd} {S : List Cell} {H : Hp} {ds : List D} {vs : List V} {rw : Bool} {E : EK} {N : List Str} {x C dx : Addr} {xs0 : List (Str × V)} {fs0 : List (Str × D)} (B : Base rw W S H) (hx : H x = some (.ins C dx xs0)) (rf : RepF W.φ W.F H xs0 fs0) (hF : ¬ W.F x) (ho : ¬ W.own x) (r : RepL W.φ W.F H vs ds) (hl : ds.length + 1 ≤ N.length) :
    Pre ⟨W, hDel H x, rw, E, fun _ => False⟩ W ⟨.ins x C fs0 :: (ds.map O.d ++ List.replicate (N.length - 1 - ds.length) .un), S, rw, false⟩ (L2.start N (.ref x :: vs)) H := by
  have hv := r.length
  have es : L2.start N (.ref x :: vs) = some (.ref x) :: (vs.map some ++ List.replicate (N.length - 1 - vs.length) none) := by
    unfold L2.start
    rw [List.map_cons, List.cons_append, List.length_cons, show N.length - (vs.length + 1) = N.length - 1 - vs.length by omega]
  rw [es]
  have one : ∀ {i a}, slotOwns (.ins x C fs0 :: (ds.map O.d ++ List.replicate (N.length - 1 - ds.length) .un)) (some (.ref x) :: (vs.map some ++ List.replicate (N.length - 1 - vs.length) none)) i a → i = 0 ∧ a = x := fun {i a} ⟨o, h1, h2, h3⟩ => by
    cases i with
    | zero =>
      cases h3
      exact ⟨rfl, rfl⟩
    | succ i =>
      rw [List.getElem?_cons_succ, List.getElem?_append] at h1
      split at h1
      · rw [List.getElem?_map] at h1
        cases e : ds[i]? with
        | none => rw [e] at h1; cases h1
        | some d => rw [e] at h1; cases h1; cases h2
      · have := List.mem_of_getElem? h1
        rw [(List.mem_replicate.mp this).2] at h2
        cases h2
  refine ⟨rfl, ⟨fun _ _ e => e, fun _ h => h, fun a o e _ => (del_some e).2, fun a o e => (del_some e).2, fun a e z => e ?_, fun _ h => .inl h, ⟨[], rfl⟩, fun _ h => .inl h⟩, fun a h => .inl h, B, ?_, fun i o h => ?_, fun i a z => ?_, fun i j a z y => by rw [(one z).1, (one y).1], fun a h => h.elim, fun h => (by cases h), fun a h => ?_⟩
  · by_cases q : a = x
    · exact if_pos q
    · show hDel H x a = none
      rw [del_ne q]
      exact z
  · simp only [List.length_cons, List.length_append, List.length_map, List.length_replicate]
    omega
  · cases i with
    | zero =>
      cases h
      exact ⟨x, rfl, rfl, dx, xs0, hx, rf⟩
    | succ i =>
      rw [List.getElem?_cons_succ, List.getElem?_append] at h
      rw [List.getElem?_cons_succ]
      split at h
      · rename_i hi
        rw [List.length_map] at hi
        rw [List.getElem?_map] at h
        cases e : ds[i]? with
        | none => rw [e] at h; cases h
        | some d =>
          rw [e] at h
          cases h
          obtain ⟨v, e1, e2⟩ := r.get e
          refine ⟨v, ?_, e2⟩
          rw [List.getElem?_append_left (by rw [List.length_map]; omega), List.getElem?_map, e1]
          rfl
      · have := List.mem_of_getElem? h
        rw [(List.mem_replicate.mp this).2]
        exact trivial
  · obtain ⟨rfl, rfl⟩ := one z
    exact ⟨hF, ho, if_pos rfl⟩
  · obtain ⟨o, e, m⟩ := B.own_there h
    exact ⟨o, by show hDel H x a = _; rw [del_ne (fun z => ho (by rw [← z]; exact h))]; exact e, m⟩
section
variable {P : Program} {w : World} {K : PySem.W.Frag} {mg : Str → Option Value} {base : Heap}
/-- the reading of an __init__'s body -/
theorem init_body {X : Cx} {N : List Str} {body : List Stmt} {b : Sx} {C : Addr} {rw : Bool} {np : Nat} {vs : List V} {H : Hp} {Q : VK} {E : XK} (hN : np + 1 ≤ N.length) (h : spI C rw np (mkI C rw N.length b) vs H Q E) (hb : PXB X body b) (hX : X.H_0 = H) (tk : Takes X (fun cls d _ H => E cls d H)) :
    ∃ t, PSs X body t ∧ t { nx := fun _ H' => Q .non H', rt := Q } (L2.start N vs) H := by
  obtain ⟨W, S, H1, x, dx, xs0, fs0, vs', ds, Q0, E0, rfl, rfl, B, hx, rf, hF, ho, r, hl, q, kr, ke⟩ := h
  have lx : W.L.lookup x = none := by
    cases e : W.L.lookup x with
    | none => rfl
    | some o => exact ((B.lF x o e).1.elim hF fun z => ho z.2).elim
  have BD := base_del B hF ho fun xs z => by rw [hx] at z; cases z
  have hX' : ∀ d o' u', X.H_0 d = some (.frz o' u') → lockH W.L (hDel H1 x) d = some (.frz o' u') := fun d o' u' e => by
    rw [hX] at e
    by_cases z : d = x
    · rw [z, lock_at lx, hx] at e
      cases e
    · unfold lockH at e ⊢
      rw [del_ne z]
      exact e
  refine ⟨_, pssUnl (hb ⟨W, hDel H1 x, rw, fun C fs st => E0 C fs st.S, fun _ => False⟩ ?_), ?_⟩
  · refine Takes.imp (takesUnl tk) ?_
    rintro cls od σ H ⟨W', st', H2, C, fs, rfl, P', rfl, ex, e0⟩
    obtain ⟨un, s1, B1⟩ := P'.exit (X := X) BD hX'
    exact ⟨_, un, ke C fs st'.S od _ H2 e0 s1 P'.new B1 rfl ex⟩
  · have fin : ∀ {st' : Ps} {W' : Wd} {σ' : L2.St} {H2 : Hp}, endI x C Q0 st' → Pre ⟨W, hDel H1 x, rw, fun C fs st => E0 C fs st.S, fun _ => False⟩ W' st' σ' H2 → ∃ H', Unl X (lockH W'.L H2) H' ∧ Q .non H' := fun {st' W' σ' H2} q' P' => by
      unfold endI at q'
      split at q'
      · rename_i y C' fs hs
        obtain ⟨rfl, rfl, q'⟩ := q'
        obtain ⟨un, s1, B1⟩ := P'.exit (X := X) BD hX'
        obtain ⟨a, e1, rfl, dx', xs', e2, e3⟩ := P'.slot 0 _ hs
        obtain ⟨n1, n2, _⟩ := P'.sown 0 _ ⟨_, hs, rfl, join_ref e1⟩
        exact ⟨_, un, kr fs _ xs' dx' _ H2 q' s1 P'.new B1 rfl e2 e3 n1 n2⟩
      · exact q'.elim
    refine ⟨W, _, H1, ⟨endI x C Q0, fun o st => (match o with | .d .non => True | _ => False) ∧ endI x C Q0 st, fun _ => False, fun _ => False⟩, rfl, preI B hx rf hF ho r (by omega), ⟨fun st' W' σ' H2 q' P' _ => fin q' P', fun o st' W' σ' H2 v q' P' _ ov => ?_, fun st' W' σ' H2 q' P' _ => q'.elim, fun st' W' σ' H2 q' P' _ => q'.elim⟩, q⟩
    obtain ⟨q1, q2⟩ := q'
    split at q1
    · have ov' : Rp W' H2 v .non := ov
      cases ov'
      exact fin q2 P'
    · exact q1.elim
theorem fnI {x qual : Str} {st : Stmt} {f C : Addr} {fd : FuncData} {N ps : List Str} {k np : Nat} {b : Sx} {rw : Bool} (F : Fun K x qual st f fd) (S : FnScope N ps (defScope st)) (hp : ps.length = np + 1) (hN : np + 1 ≤ N.length)
    (hb : ∀ (cdv : Value) (A : Around) (outer : List Env) (s : Shared) (H : Hp) (E : XK), Room k (A.deeper (envOfC qual (defScope st) s.heap.objs.size f cdv)) → PXB (cxOf (L2.CX P w) P w K mg base N qual (defScope st) f cdv A outer s H E) (defBody st) b) :
    FnOk P w K mg base (L2.CX P w) (k + 1) f fd ps (spI C rw np (mkI C rw N.length b)) := by
  refine F.okX S (fun vs H Q E h => ?_) fun cdv A outer s H vs Q E hr h => init_body hN h (hb cdv A outer s H E hr) rfl (takes_of rfl rfl rfl rfl)
  obtain ⟨W, S', H1, x, dx, xs0, fs0, vs', ds, Q0, E0, rfl, _, _, _, _, _, _, r, hl, _⟩ := h
  rw [List.length_cons, r.length, hl, hp]
end
/-! ### self.f = e -/
def putFD (f : Str) (v : D) : List (Str × D) → List (Str × D)
  | [] => [(f, v)]
  | (g, x) :: r => if g = f then (g, v) :: r else (g, x) :: putFD f v r
theorem RepF.put {φ F H} {f : Str} {v : V} {d : D} (h : Rep φ F H v d) : ∀ {vs : List (Str × V)} {ds : List (Str × D)}, RepF φ F H vs ds → RepF φ F H (putF f v vs) (putFD f d ds)
  | _, _, .nil => .cons h .nil
  | _, _, .cons (k := k) a t => by
    unfold putF putFD
    split
    · exact .cons h t
    · exact .cons a (t.put h)
theorem RepF.length {φ F H} : ∀ {vs : List (Str × V)} {ds : List (Str × D)}, RepF φ F H vs ds → vs.length = ds.length
  | _, _, .nil => rfl
  | _, _, .cons _ t => congrArg (· + 1) t.length
def sFldI (K : PySem.W.Frag) (i : Nat) (f : Str) (g : Ox) : Sx := fun E En st => g E st fun o st1 => match st1.ρ[i]? with
  | some (.ins x C fs) => FldOk K C f ∧ fs.length < 1000 ∧ En.nx { st1 with ρ := st1.ρ.set i (.ins x C (putFD f o.toD fs)) }
  | _ => False
theorem pxs_fldI {X : Cx} {K : PySem.W.Frag} {i : Nat} {f : Str} {e : Expr} {s : Stmt} {g : Ox} (h : ∀ {t : TE}, PE X e t → PS X s (sFld K (tVar i) t f)) (hg : PO X e g) : PXS X s (sFldI K i f g) := fun c l => psOf (h (hg c l)) fun D σ H ⟨W, st, H1, En, hH, P, ek, q⟩ =>
  ⟨W, st, H1, _, hH, P, q, fun o st1 v W1 H2 q1 s1 P1 ov => by
    obtain ⟨W3, s3, P3, r, eL⟩ := OV.plain P1 ov
    split at q1
    · rename_i x C fs hs
      obtain ⟨a, e1, rfl, dx, xs, e2, e3⟩ := P3.slot i _ hs
      have e1 := join_ref e1
      have so : slotOwns st1.ρ σ i x := ⟨_, hs, rfl, e1⟩
      refine ⟨_, e1, x, C, dx, xs, rfl, by rw [← eL]; exact P3.nol e2 rfl, q1.1.cl, q1.1.no, by rw [e3.length]; exact q1.2.1, ?_⟩
      rw [← eL, lock_upd (P3.lown (P3.sown i x so).1 (P3.sown i x so).2.1)]
      refine ek.1 _ _ _ _ q1.2.2 (P3.mutate hs rfl e1 rfl fun fu => ⟨rfl, dx, _, upd_same, RepF.put (r.fut fu) (e3.fut fu)⟩) ((P.aft (s1.trans s3)).trans ⟨fut_mut W3 (P3.sown i x so).1 e2 rfl, [], rfl⟩)
    · exact q1.elim⟩
/-! ### C(..) -/
/-- making an instance: the new instance is plain data -/
def xMk (C : Addr) (rw : Bool) (np : Nat) (m : MI) (ga : Ax) : Ox := fun E st Q => ga E st fun rs st1 => (rw = true → st1.rw = true) ∧ opt (frzs st1 rs) fun q => q.1.length = np ∧ ∀ x, m x [] q.1 (fun C fs S' => E C fs { q.2 with S := S' }) q.2.S fun fs S' => Q (.d (.ins C fs)) { q.2 with S := S' }
def MakeSp (X : Cx) (ee : Expr) (es : List Expr) (C : Addr) (sp : Sp) : Prop := ∀ (Ew : WX), Takes X Ew → ∀ {t : TA}, PA X es t → PE X ee (fun σ H Q => t σ H fun vs H1 => ∀ x dx, H1 x = none → H1 dx = none → dx ≠ x → sp (.ref x :: vs) (upd (upd H1 dx (.own x)) x (.ins C dx [])) (fun v H2 => v = .non ∧ Q (.ref x) H2) (WE Ew σ))
theorem po_Mk {X : Cx} {ee : Expr} {es : List Expr} {C : Addr} {rw : Bool} {np : Nat} {m : MI} {ga : Ax} (h : MakeSp X ee es C (spI C rw np m)) (ha : PXA X es ga) : PO X ee (xMk C rw np m ga) := fun c l => peOf (h (wish c) l (ha c l)) fun σ H Q ⟨W, st, H1, Q0, hH, P, q, k⟩ =>
  ⟨W, st, H1, _, hH, P, q, fun rs st1 vs W1 H2 q1 s1 P1 rvs => fun x dx hx hdx hne => by
    obtain ⟨hrw, q1⟩ := q1
    obtain ⟨y, e, hn, q1⟩ := opt_ex q1
    obtain ⟨W2, s2, P2, r2, eL⟩ := frzs_ok P1 e rvs
    rw [← eL] at hx hdx ⊢
    obtain ⟨x1, x2⟩ := P2.lnone' hx
    obtain ⟨d1, d2⟩ := P2.lnone' hdx
    obtain ⟨sa, Pa, a1, a2, a3, a4, a5⟩ := P2.fresh (o := .own x) d1
    have x1' : upd H2 dx (.own x) x = none := by rw [upd_ne (Ne.symm hne)]; exact x1
    obtain ⟨sb, Pb, b1, b2, b3, b4, b5⟩ := Pa.fresh (o := .ins C dx []) x1'
    have up : ∀ {W' H' H''}, Step rw W2 H' W' H'' → Step c.rw W2 H' W' H'' := fun {W' H' H''} s => by
      cases rw with
      | false => exact s.up
      | true =>
        have e : c.rw = true := P1.hrw.symm.trans (hrw rfl)
        rw [e]
        exact s
    have fb : Fut W2.φ W2.F H2 W2.φ W2.F (upd (upd H2 dx (.own x)) x (.ins C dx [])) := (P2.fut sa).trans (Pa.fut sb)
    have sd : ∀ {W' H3}, Step c.rw W2 (hDel (upd (upd H2 dx (.own x)) x (.ins C dx [])) x) W' H3 → Step c.rw W2 H2 W' H3 := fun {W' H3} s => by
      refine ⟨s.cells, s.sub, fun a o e n => s.keep a o ?_ n, fun a xs e => s.tups a xs ?_, fun a e => s.dom a ?_, fun a h => (s.ownNew a h).elim .inl fun z => .inr ⟨z.1, ?_⟩, s.locks, s.ownOld⟩
      · have nx : a ≠ x := ne_of_none e x1
        have nd : a ≠ dx := ne_of_none e d1
        rw [del_ne nx, upd_ne nx, upd_ne nd]
        exact e
      · have nx : a ≠ x := ne_of_none e x1
        have nd : a ≠ dx := ne_of_none e d1
        rw [del_ne nx, upd_ne nx, upd_ne nd]
        exact e
      · have nx : a ≠ x := fun z => e (by rw [z]; exact x1)
        have nd : a ≠ dx := fun z => e (by rw [z]; exact d1)
        rw [del_ne nx, upd_ne nx, upd_ne nd]
        exact e
      · have z := z.2
        by_cases nx : a = x
        · rw [nx]; exact x1
        · rw [del_ne nx, upd_ne nx] at z
          by_cases nd : a = dx
          · rw [nd]; exact d1
          · rw [upd_ne nd] at z
            exact z
    have nw : ∀ {W' : Wd}, (∀ a, W'.F a → W2.F a ∨ hDel (upd (upd H2 dx (.own x)) x (.ins C dx [])) x a = none) → ∀ a, W'.F a → W2.F a ∨ H2 a = none := fun {W'} n a h => (n a h).elim .inl fun z => .inr (by
      by_cases nx : a = x
      · rw [nx]; exact x1
      · rw [del_ne nx, upd_ne nx] at z
        by_cases nd : a = dx
        · rw [nd]; exact d1
        · rw [upd_ne nd] at z
          exact z)
    refine ⟨W2, y.2.S, upd (upd H2 dx (.own x)) x (.ins C dx []), x, dx, [], [], vs, y.1, _, _, rfl, ?_, Pb.base.to (fun z => P1.hrw.symm.trans (hrw z)), upd_same, .nil, b1, b2, r2.fut fb, hn, q1 x, fun fs S' xs dx' W' H3 q0 s n B el hx' rf nF no => ⟨rfl, ?_⟩, fun C' fs S' od W' H3 q0 s n B el ex => ?_⟩
    · rw [lock_upd d2, lock_upd x2]
    · have st3 := sd (up s)
      have P3 := P2.call st3 (nw n) (P2.base.back B el st3 (fun z => s.own0 z) (nw n))
      have xr : ¬ c.R x := fun z => by
        obtain ⟨_, _, ⟨u, e⟩, _⟩ := P2.rsv x z
        rw [x1] at e
        cases e
      have xs' : ∀ i, ¬ slotOwns y.2.ρ σ i x := fun i z => by
        obtain ⟨u, e, _⟩ := P2.sthere z
        rw [x1] at e
        cases e
      have x0 : c.H0 x = none := Classical.byContradiction fun z => P2.step.dom x z x1
      obtain ⟨s4, P4⟩ := P3.freeze0 (p := x) no x0 xs' xr ⟨_, hx'⟩
      have fin := k _ _ (V.ref x) _ _ q0 (((s1.trans s2).trans st3).trans s4) P4 (show Rp (W'.add x) H3 (.ref x) (.ins C fs) from .ins (.inr rfl) hx' (rf.fut (P3.fut s4)))
      rw [show (W'.add x).L = W2.L from el] at fin
      exact fin
    · exact ⟨W', _, H3, C', fs, by rw [el], P2.call (sd (up s)) (nw n) (P2.base.back B el (sd (up s)) (fun z => s.own0 z) (nw n)), rfl, ex, q0⟩⟩
end Q
namespace Q
open PySem L2 PySem.Spec PyProof.Rows
section
variable {X : Cx}
theorem cand_of {m : Str} {C f : Addr} {k : Nat} {fd : FuncData} {ps : List Str} {sp : Sp} (c : Cls X.K C) (hm : Meth X.K C m f) (F : FnOk X.prog X.w X.K X.mg X.base (L2.CX X.prog X.w) k f fd ps sp) (hb : Binds X.K fd ps []) (hr : Room k X.A) : Cand X m C sp := ⟨f, k, c, hm, fnS_of F hb, hr⟩
/-! ### C(..) -/
theorem run_mkS {C f : Addr} {k : Nat} {sp : Sp} {E : L2.St → XK} {pins : List (Addr × Obj)} {σ : L2.St} {H : Hp} {s : Shared} {Q : VK} {us : List Value} {vs : List V} (M : Mk X.K C f) (F : FnS X k f sp) (hr : Room (k + 1) X.A) (hx : PassesAt (L2.CX X.prog X.w) X σ (E σ)) (I : L2.Inv X pins σ H s) (r : Vals vs us)
    (h : ∀ x dx, H x = none → H dx = none → dx ≠ x → sp (.ref x :: vs) (upd (upd H dx (.own x)) x (.ins C dx [])) (fun v H2 => v = .non ∧ Q (.ref x) H2) (E σ)) : wpAny (model X.prog X.w) X.A (call (.ref C) us) (EP X pins σ Q) X.xe s := by
  have hq := h _ s.heap.objs.size (I.hok.fresh (Nat.le_succ s.heap.objs.size)) (I.hok.fresh (Nat.le_refl _)) (Nat.ne_of_lt (Nat.lt_succ_self _))
  have J := L2.Inv.made (C := C) I
  refine wpAny_call (make_map (f := f) I.kIn M.makes M.init (beq_iff_eq.mp M.fn) (codeAny_mono (F _ X.stack _ _ (Value.ref (s.heap.objs.size + 1) :: us) _ _ (E σ) (hr.make C us []) (J.env0.make C us []) (Paired.cons (a := V.ref (s.heap.objs.size + 1)) rfl r) hq) fun res s' z => ?_))
  cases res with
  | error e => exact hx pins _ _ e s' J z
  | ok fl =>
    cases fl with
    | ret u =>
      obtain ⟨v, H', J3, rv, ev, q3⟩ := J.after z
      subst ev
      exact ⟨rv, V.ref (s.heap.objs.size + 1), H', J3, rfl, q3⟩
    | next => exact z.elim
    | brk => exact z.elim
    | cont => exact z.elim
theorem make_sp {C f : Addr} {k : Nat} {sp : Sp} {x : Str} {p pos : Pos} {e : Expr} {es : List Expr} (M : Mk X.K C f) (F : FnS X k f sp) (hr : Room (k + 1) X.A) (hg : Gl X x) (hm : X.mg x = some (.ref C)) (hdb : (x == ("__debug__" : Str)) = false := by decide) (he : starEach (e :: es) X.env = (false, eval e X.env) :: starEach es X.env := by rfl) (hpl : (backTo pos (starEach es X.env)).any (·.1) = false := by rfl) : MakeSp X (.Call (.Name x p) (e :: es) [] pos) (e :: es) C sp :=
  fun Ew tk {t} ha => ⟨fun pins s σ H Q I h => wpAny_Call_Name_kw (ld_glob I hg hm (PySem.W.callWith_K (h₀ := X.base) I.ok.mod.kin M.kp (thn (ha.run pos pins s σ H _ I h) fun us s1 ⟨vs, H1, I1, r, q⟩ => ⟨I1.kIn, run_mkS (E := WE Ew) M F hr (passAt tk σ) I1 r q⟩) he hpl) hdb)⟩
/-! ### defs with *rest -/
/-- the arguments, the rest of them in a tuple -/
def starD (k : Nat) (ds : List D) : List D := ds.take k ++ [.tup (ds.drop k)]
def mStar (k : Nat) (m : MF) : MF := fun ds E S Q => k ≤ ds.length ∧ (ds.drop k).length ≤ sizeLine ∧ m (starD k ds) E S Q
def iStar (k : Nat) (m : MI) : MI := fun x fs ds E S Q => k ≤ ds.length ∧ (ds.drop k).length ≤ sizeLine ∧ m x fs (starD k ds) E S Q
end
end Q
namespace Q
open PySem L2 PySem.Spec PyProof.Rows
/-! ### the tables of databases, read as plain data where nothing is changed -/
def rowsD (rows : List (Str × List (List Key))) : D := .dK (rows.map fun p => (Sum.inr p.1, .dT (p.2.map fun k => (k, .bl true))))
theorem truesT (φ F H) : ∀ ks : List (List Key), RepT φ F H (ks.map fun k => (k, V.bl true)) (ks.map fun k => (k, D.bl true))
  | [] => .nil
  | _ :: ks => .cons (.bl true) (truesT φ F H ks)
theorem TabsAt.rep {φ : List (Addr × Addr)} {F : Addr → Prop} {H : Hp} : ∀ {kvs : List (Key × V)} {rows : List (Str × List (List Key))} {ts : List Addr}, TabsAt H kvs rows ts → (∀ t ∈ ts, F t) → RepK φ F H kvs (rows.map fun p => (Sum.inr p.1, .dT (p.2.map fun k => (k, .bl true))))
  | _, _, _, .nil, _ => .nil
  | _, _, _, .cons h r, f => .cons (.dT (f _ List.mem_cons_self) h (truesT _ _ _ _)) (r.rep fun t ht => f t (List.mem_cons_of_mem _ ht))
theorem Pre.db {c : C0} {W : Wd} {st : Ps} {σ : L2.St} {H : Hp} (P : Pre c W st σ H) {n : Nat} {a r : Addr} {x C : Addr} {sch : D} {rows : List (Str × List (List Key))} (e : W.φ[n]? = some (a, r)) (h : st.S[n]? = some (.db x C sch rows)) : ∃ w dx vs kvs ts, W.owns[n]? = some w ∧ w = a :: r :: ts ∧ w.Nodup ∧ H a = some (.ins C dx [("own_schema", vs), ("own_rows", .ref r)]) ∧ Rp W H vs sch ∧ H r = some (.dK kvs) ∧ TabsAt H kvs rows ts ∧ (rows.map (·.1)).Nodup ∧ (∀ x ∈ w, W.own x) ∧ x = a := by
  have hl := P.base.len
  have hn := (List.getElem?_eq_some_iff.mp e).1
  have ho : W.owns[n]? = some (W.owns[n]'(by omega)) := List.getElem?_eq_getElem (by omega)
  obtain ⟨dx, vs, kvs, ts, e1, h1, h2, h3, h4, h5, h6⟩ := P.base.cell n _ _ _ e h ho
  exact ⟨_, dx, vs, kvs, ts, ho, e1, h1, h2, h3, h4, h5, h6.1, fun x hx => ⟨_, List.mem_of_getElem? ho, hx⟩, h6.2⟩
section
variable {X : Cx} {e ee : Expr} {f : Ex} {g : Ox}
def xOpen (f : Ex) : Ex := fun E st Q => f E st fun r st1 => st1.vw = true ∧ match look st1 r with
  | some (.rows n) => (match st1.S[n]? with
    | some (.db _ _ _ rows) => Q (.v (rowsD rows)) st1
    | _ => False)
  | _ => False
theorem px_open (h : PX X e f) : PX X e (xOpen f) := fun c l => peOf (h c l) fun σ H Q ⟨W, st, H1, Q0, hH, P, q, k⟩ => ⟨W, st, H1, _, hH, P, q, fun r st1 v W1 H2 q1 s1 P1 rv => by
  obtain ⟨hv, q1⟩ := q1
  split at q1
  · rename_i n hl
    split at q1
    · rename_i x0 C sch rows hS
      have t := P1.top rv hl
      cases t with
      | rows e1 =>
        obtain ⟨w, dx, vs, kvs, ts, ho, ew, h1, h2, h3, h4, h5, h6, h7, _⟩ := P1.db e1 hS
        obtain ⟨hr, hf⟩ := P1.hvw hv
        refine k _ _ _ _ _ q1 s1 P1 (show Rp W1 H2 _ (rowsD rows) from .dK (hf _ (h7 _ ?_)) h4 (h5.rep fun t ht => hf t (h7 t ?_)))
        · rw [ew]; exact List.mem_cons_of_mem _ List.mem_cons_self
        · rw [ew]; exact List.mem_cons_of_mem _ (List.mem_cons_of_mem _ ht)
    · exact q1.elim
  · exact q1.elim⟩
mutual
def flD : D → Bool
  | .non => true
  | .bl _ => true
  | .int _ => true
  | .str _ => true
  | .byt _ => true
  | .ty _ => true
  | .cls _ => true
  | .tup ds => flL ds
  | .lst _ => false
  | .dK _ => false
  | .dT _ => false
  | .ins _ _ => false
  | .cell _ => false
  | .scr _ => false
  | .rows _ => false
def flL : List D → Bool
  | [] => true
  | d :: ds => flD d && flL ds
end
def flO : O → Bool
  | .un => false
  | .d x => flD x
  | .lst xs => flL xs
  | .dK kvs => flL (kvs.map (·.2))
  | .dT kvs => flL (kvs.map (·.2))
  | .ins _ _ fs => flL (fs.map (·.2))
mutual
theorem Rep.flat {φ F H φ' F'} : ∀ {d : D} {v : V}, Rep φ F H v d → flD d = true → Rep φ' F' H v d
  | .non, _, h, _ => by cases h; exact .non
  | .bl b, _, h, _ => by cases h; exact .bl b
  | .int b, _, h, _ => by cases h; exact .int b
  | .str b, _, h, _ => by cases h; exact .str b
  | .byt b, _, h, _ => by cases h; exact .byt b
  | .ty b, _, h, _ => by cases h; exact .ty b
  | .cls b, _, h, _ => by cases h; exact .cls b
  | .cell n, _, h, e => by cases e
  | .rows n, _, h, e => by cases e
  | .lst ds, _, h, e => by cases e
  | .scr ns, _, h, e => by cases e
  | .tup ds, _, h, e => by
    cases h with
    | tup h2 h3 => exact .tup h2 (RepL.flat h3 e)
  | .dK ds, _, h, e => by cases e
  | .dT ds, _, h, e => by cases e
  | .ins C ds, _, h, e => by cases e
theorem RepL.flat {φ F H φ' F'} : ∀ {ds : List D} {vs : List V}, RepL φ F H vs ds → flL ds = true → RepL φ' F' H vs ds
  | [], _, h, _ => by cases h; exact .nil
  | d :: ds, _, h, e => by
    cases h with
    | cons h1 h2 =>
      have e' : (flD d && flL ds) = true := e
      rw [Bool.and_eq_true] at e'
      exact .cons (Rep.flat h1 e'.1) (RepL.flat h2 e'.2)
end
theorem RepK.flat {φ F H φ' F'} : ∀ {ds : List (Key × D)} {vs : List (Key × V)}, RepK φ F H vs ds → flL (ds.map (·.2)) = true → RepK φ' F' H vs ds
  | [], _, h, _ => by cases h; exact .nil
  | (_, d) :: ds, _, h, e => by
    cases h with
    | cons h1 h2 =>
      have e' : (flD d && flL (ds.map (·.2))) = true := e
      rw [Bool.and_eq_true] at e'
      exact .cons (Rep.flat h1 e'.1) (RepK.flat h2 e'.2)
theorem RepT.flat {φ F H φ' F'} : ∀ {ds : List (List Key × D)} {vs : List (List Key × V)}, RepT φ F H vs ds → flL (ds.map (·.2)) = true → RepT φ' F' H vs ds
  | [], _, h, _ => by cases h; exact .nil
  | (_, d) :: ds, _, h, e => by
    cases h with
    | cons h1 h2 =>
      have e' : (flD d && flL (ds.map (·.2))) = true := e
      rw [Bool.and_eq_true] at e'
      exact .cons (Rep.flat h1 e'.1) (RepT.flat h2 e'.2)
theorem RepF.flat {φ F H φ' F'} : ∀ {ds : List (Str × D)} {vs : List (Str × V)}, RepF φ F H vs ds → flL (ds.map (·.2)) = true → RepF φ' F' H vs ds
  | [], _, h, _ => by cases h; exact .nil
  | (_, d) :: ds, _, h, e => by
    cases h with
    | cons h1 h2 =>
      have e' : (flD d && flL (ds.map (·.2))) = true := e
      rw [Bool.and_eq_true] at e'
      exact .cons (Rep.flat h1 e'.1) (RepF.flat h2 e'.2)
theorem OwnAt.flat {W W' : Wd} {H : Hp} {a : Addr} {o : O} (h : OwnAt W H a o) (e : flO o = true) : OwnAt W' H a o := by
  cases o with
  | un => exact h
  | d x => exact h
  | lst _ => obtain ⟨_, h, g⟩ := h; exact ⟨_, h, g.flat e⟩
  | dK _ => obtain ⟨_, h, g⟩ := h; exact ⟨_, h, g.flat e⟩
  | dT _ => obtain ⟨_, h, g⟩ := h; exact ⟨_, h, g.flat e⟩
  | ins _ _ _ => obtain ⟨z, _, _, h, g⟩ := h; exact ⟨z, _, _, h, g.flat e⟩
/-- the cells' things are plain, for a while -/
def Wd.view (W : Wd) : Wd := { W with F := fun a => W.F a ∨ W.own a }
def xVw (f : Ox) : Ox := fun E st Q => st.rw = false ∧ f E0k { st with vw := true } fun o st' => flO o = true ∧ st'.ρ = st.ρ ∧ Q o st
theorem Base.view {W : Wd} {S : List Cell} {H : Hp} (B : Base false W S H) : Base false W.view S H := by
  refine ⟨fun a h => ?_, B.len, fun n a x w h1 h2 h3 => (B.cell n a x w h1 h2 h3).fut ⟨fun _ _ e => e, fun _ h => .inl h, fun _ _ _ e => e, fun _ _ e => e⟩ fun _ _ => rfl, B.apart, (fun z => by cases z), B.lN, fun a o h => ⟨(B.lF a o h).1.elim (fun z => .inl (.inl z)) .inr, (B.lF a o h).2⟩⟩
  rcases h with h | h
  · exact B.fdom a h
  · obtain ⟨o, e, _⟩ := B.own_there h
    exact ⟨o, e⟩
abbrev C0.view (c : C0) : C0 := { c with W0 := c.W0.view, E := E0k }
theorem Pre.view {c : C0} {W : Wd} {st : Ps} {σ : L2.St} {H : Hp} (P : Pre c W st σ H) (hr : st.rw = false) : Pre c.view W.view { st with vw := true } σ H := by
  have hc : c.rw = false := P.hrw.symm.trans hr
  have s := P.step
  have sv : Step c.rw W H W.view H := ⟨fun _ _ e => e, fun _ h => .inl h, fun _ _ e _ => e, fun _ _ e => e, fun _ h => h, fun _ h => .inl h, ⟨[], rfl⟩, fun _ h => .inl h⟩
  refine ⟨P.hrw, ⟨s.cells, fun a h => h.elim (fun z => .inl (s.sub a z)) fun z => (s.ownOld a z).elim .inr fun y => (by rw [hc] at y; cases y), s.keep, s.tups, s.dom, s.ownNew, s.locks, s.ownOld⟩, fun a h => ?_, ?_, P.slen, fun i o h => (P.slot i o h).fut (P.fut sv) fun _ _ _ => rfl, fun i a h => ?_, P.sapart, fun a h => ?_, fun _ => ⟨hc, fun a h => .inr h⟩, P.own0⟩
  · rcases h with h | h
    · exact (P.new a h).elim (fun z => .inl (.inl z)) .inr
    · exact (s.ownNew a h).elim (fun z => .inl (.inr z)) fun z => (by rw [hc] at z; cases z.1)
  · have B := P.base
    rw [hc] at B
    show Base c.rw _ _ _
    rw [hc]
    exact B.view
  · obtain ⟨h1, h2, h3⟩ := P.sown i a h
    exact ⟨fun z => z.elim h1 h2, h2, h3⟩
  · obtain ⟨h1, h2, h3, h4⟩ := P.rsv a h
    exact ⟨fun z => z.elim h1 h2, h2, h3, h4⟩
def Wd.unview (W W' : Wd) : Wd := { W with F := fun a => W'.F a ∧ (W.own a → W.F a), L := W'.L }
theorem Pre.unview {c : C0} {W W' : Wd} {st st' : Ps} {σ : L2.St} {H H' : Hp} (P : Pre c W st σ H) (hr : st.rw = false) (s : Step c.rw W.view H W' H') (P' : Pre c.view W' st' σ H') (e : st'.ρ = st.ρ) : Step c.rw W H (W.unview W') H' ∧ Pre c (W.unview W') st σ H' := by
  have hc : c.rw = false := P.hrw.symm.trans hr
  have kp : ∀ a o, H a = some o → H' a = some o := fun a o h => s.keep a o h fun z => by rw [hc] at z; cases z
  have s1 : Step c.rw W H (W.unview W') H' := ⟨fun _ _ h => h, fun a h => ⟨s.sub a (.inl h), fun _ => h⟩, fun a o h _ => kp a o h, s.tups, s.dom, fun _ h => .inl h, s.locks, fun _ h => .inl h⟩
  have sl : ∀ {i a}, slotOwns st.ρ σ i a → slotOwns st'.ρ σ i a := fun {i a} h => by rw [e]; exact h
  refine ⟨s1, P.hrw, P.step.trans s1, fun a h => ?_, ⟨fun a h => P'.base.fdom a h.1, P.base.len, fun n a x w h1 h2 h3 => ?_, P.base.apart, fun z => (by rw [hc] at z; cases z), P'.base.lN, fun a o h => ?_⟩, P.slen, fun i o h => (P.slot i o h).fut (P.fut s1) fun a e1 e2 => ?_, fun i a h => ?_, P.sapart, fun a h => ?_, fun h => ⟨hc, fun a ho => ⟨s.sub a (.inr ho), fun _ => (P.hvw h).2 a ho⟩⟩, P.own0⟩
  · rcases P'.new a h.1 with z | z
    · rcases z with z | z
      · exact .inl z
      · exact P.new a (h.2 ((P.step.ownOld a z).elim id fun y => by rw [hc] at y; cases y))
    · exact .inr z
  · have r := P.base.cell n a x w h1 h2 h3
    refine r.fut (P.fut s1) fun y hy => ?_
    obtain ⟨o, q, _⟩ := r.there y hy
    rw [q, kp y o q]
  · obtain ⟨h1, h2⟩ := P'.base.lF a o h
    refine ⟨?_, h2⟩
    rcases h1 with h1 | ⟨_, h1⟩
    · by_cases z : W.own a
      · exact .inr ⟨hc, z⟩
      · exact .inl ⟨h1, fun y => absurd y z⟩
    · exact (s.ownNew a h1).elim (fun z => .inr ⟨hc, z⟩) fun z => (by rw [hc] at z; cases z.1)
  · obtain ⟨u, q, _⟩ := P.sthere ⟨o, h, e2, join_ref e1⟩
    rw [q, kp a u q]
  · exact ⟨fun z => (P'.sown i a (sl h)).1 z.1, (P.sown i a h).2⟩
  · obtain ⟨h1, h2, ⟨u, h3⟩, h4⟩ := P.rsv a h
    exact ⟨fun z => (P'.rsv a h).1 z.1, h2, ⟨u, kp a u h3⟩, h4⟩
theorem po_Vw (h : PO X e g) : PO X e (xVw g) := fun c l => by
  refine peOf (h c.view ?_) fun σ H Q ⟨W, st, H1, Q0, hH, P, ⟨hr, q⟩, k⟩ => ?_
  · exact Takes.imp l fun cls od σ H ⟨_, _, _, _, _, _, _, _, _, z⟩ => z.elim
  · refine ⟨W.view, _, H1, _, hH, P.view hr, q, fun o st' v W' H2 ⟨hf, e, q⟩ s P' ov => ?_⟩
    obtain ⟨s1, P1⟩ := P.unview hr s P' e
    have hc : c.rw = false := P.hrw.symm.trans hr
    refine k _ _ _ (W.unview W') _ q s1 P1 ?_
    have go : ∀ {a : Addr}, OwnAt W' H2 a o → ¬ W'.F a → ¬ W'.own a → c.H0 a = none → (∀ i, ¬ slotOwns st'.ρ σ i a) → ¬ c.R a → OwnAt (W.unview W') H2 a o ∧ ¬ (W.unview W').F a ∧ ¬ (W.unview W').own a ∧ c.H0 a = none ∧ (∀ i, ¬ slotOwns st.ρ σ i a) ∧ ¬ c.R a := fun {a} q1 q2 q3 q4 q5 q6 => ⟨q1.flat hf, fun z => q2 z.1, fun z => (s.ownOld a z).elim q3 fun y => (by rw [hc] at y; cases y), q4, fun i => by rw [← e]; exact q5 i, q6⟩
    cases o with
    | un => exact ov
    | d x => exact Rep.flat ov hf
    | lst _ => obtain ⟨a, h1, h2, h3, h4, h5, h6, h7⟩ := ov; exact ⟨a, h1, go h2 h3 h4 h5 h6 h7⟩
    | dK _ => obtain ⟨a, h1, h2, h3, h4, h5, h6, h7⟩ := ov; exact ⟨a, h1, go h2 h3 h4 h5 h6 h7⟩
    | dT _ => obtain ⟨a, h1, h2, h3, h4, h5, h6, h7⟩ := ov; exact ⟨a, h1, go h2 h3 h4 h5 h6 h7⟩
    | ins _ _ _ => obtain ⟨a, h1, h2, h3, h4, h5, h6, h7⟩ := ov; exact ⟨a, h1, go h2 h3 h4 h5 h6 h7⟩
end
end Q
namespace Q
open PySem L2 PySem.Spec PyProof.Rows
/-! ### dict comprehensions, keys of either kind -/
section
variable {X : Cx} {pins : List (Addr × Obj)} {σ : L2.St} {H : Hp} {s : Shared}
theorem set_any {H' : Hp} {a : Addr} {y v : V} {u r : Value} {E : Value → Shared → Prop} {Q : Unit → Shared → Prop} (hu : X.A.units < cLine) (I : L2.Inv X pins σ H s) (g : DPut H a y v H') (ry : RelV y u) (rv : RelV v r) (k : ∀ s', L2.Inv X pins σ H' s' → Q () s') : wpAny (model X.prog X.w) X.A (dictSet a u r) Q E s := by
  rcases g with ⟨kvs, key, ha, rfl, l, rfl⟩ | ⟨kvs, key, b, ha, rfl, hb, l, rfl⟩
  · exact d_dictSet I ha l ry rv k
  · cases (show u = Value.ref b from ry)
    obtain ⟨z, hd, xs, rel, dd⟩ := dt_of I.hok ha
    refine wpAny_dictSet_heap (hsz := by rw [← Paired.length rel]; exact z) (show (tupleKind (mixKind X.prog X.w)).room X.A from hu) (key_of I.hok hb) dd fun h' new same => k _ ?_
    obtain ⟨q, es, ep, hq, n2, n3, n4, _, n5⟩ := new
    have grown : (putK kvs key v).length ≤ sizeLine := by have := length_putK kvs key v; omega
    exact d_write I (by rw [ha]; exact True.intro) same ⟨q, hq⟩ ⟨grown, hd, _, (rel.put key hb rv).keeps fun c ys ec => by rw [upd_ne (ne_of ec ha (fun z => nomatch z))]; exact ec, q, es, ep, hq, n2, n3, n4, n5⟩
/-- the empty dict, of either kind -/
def noKeys (t : Bool) : HO := if t then .dT [] else .dK []
theorem noKeys_ok (t : Bool) {P : Program} {w : World} {H : Hp} (h : Heap) (hb : sysModules < h.objs.size) : ObjOk P w H (h.push { cls := .type "dict", data := .dict #[] }) h.objs.size (noKeys t) := by
  cases t
  · exact dk_empty h hb
  · exact dt_empty h hb
end
/-- what a turn asks -/
def dxTurn (D : Addr) (g : TG) (tt : TT) (tk tv : TE) (vs : List Nat) (σ : L2.St) (x : V) (H' : Hp) (Nx : Hp → Prop) : Prop := g x (wipe σ vs) H' fun σ2 H2 => wipe σ2 vs = wipe σ vs ∧ tt σ2 H2 fun b H3 =>
  if b = true then tk σ2 H3 fun y H4 => tv σ2 H4 fun z H5 => ∃ H6, DPut H5 D y z H6 ∧ Nx H6 else Nx H3
def dxWalk (J : It) (D : Addr) (g : TG) (tt : TT) (tk tv : TE) (vs : List Nat) (σ : L2.St) (Qd : Hp → Prop) (W : Nat → Nat → Hp → Prop) : Prop := ∀ i m H, W i m H →
  (J.stop i H ∧ Qd H) ∨ (J.go i H ∧ ∃ Nx : Hp → Prop, (∀ H', Nx H' → ∃ m', m' < m ∧ W (i + 1) m' H') ∧ ∀ x H', J.yld i H x H' → dxTurn D g tt tk tv vs σ x H' Nx)
def tDx (t : Bool) (wi : TI) (g : TG) (tt : TT) (tk tv : TE) (vs : List Nat) : TE := fun σ H Q => wi σ H fun J H1 => ∀ D, H1 D = none → ∃ W : Nat → Nat → Hp → Prop, (∃ m, W 0 m (upd H1 D (noKeys t))) ∧ dxWalk J D g tt tk tv vs σ (fun H => Q (.ref D) H) W
section
variable {X : Cx}
/-- the parts of a block that reads its own names -/
structure DxParts (X : Cx) (scope : Scope) (tg kx vx : Expr) (ifs : List Expr) (g : TG) (tt : TT) (tk tv : TE) : Prop where
  tgt : ∀ (s : Shared) (H : Hp) (C : Addr) (cl : List (Str × Addr)) (fp : List Addr), PG (X.blk s H scope (compEnvC scope cl C X.env) fp) tg g
  tst : ∀ (s : Shared) (H : Hp) (C : Addr) (cl : List (Str × Addr)) (fp : List Addr), PTs (X.blk s H scope (compEnvC scope cl C X.env) fp) ifs tt
  key : ∀ (s : Shared) (H : Hp) (C : Addr) (cl : List (Str × Addr)) (fp : List Addr), PE (X.blk s H scope (compEnvC scope cl C X.env) fp) kx tk
  val : ∀ (s : Shared) (H : Hp) (C : Addr) (cl : List (Str × Addr)) (fp : List Addr), PE (X.blk s H scope (compEnvC scope cl C X.env) fp) vx tv
theorem fp_blk {s3 : Shared} {H3 : Hp} {scope : Scope} {ce : Env} {fp : List Addr} {σ' : L2.St} {H' : Hp} {s' : Shared} (I : L2.Inv (X.blk s3 H3 scope ce fp) [] σ' H' s') (hn : ∀ b ∈ fp, H' b = none) : ∀ b ∈ fp, FpOk (X.blk s3 H3 scope ce fp) [] H' b := fun b hb => by
  refine ⟨hn b hb, (I.ok.exf b hb).1, I.ok.exfs b hb, Or.inl hb, fun x c => (I.ok.exf b hb).2 x c, fun p hp => ?_⟩
  have : p ∈ ([] : List (Addr × Obj)) ++ [] := hp
  cases this
theorem pe_dx {t : Bool} {kx vx tg iter : Expr} {ifs : List Expr} {scope : Scope} {own : List (Str × Nat)} {pos : Pos} {wi : TI} {g : TG} {tt : TT} {tk tv : TE} (hu : X.A.units < cLine) (hc : X.calm = true) (hN : X.N.Nodup) (hi : PI X tg iter wi) (ok : BlkOk X.N X.env.scope scope own) (parts : DxParts X scope tg kx vx ifs g tt tk tv)
    (hs : ∀ x, foldedSetIterable iter X.env x = pure x := by intro _; rfl) : PE X (.DictComp kx vx [⟨tg, iter, ifs, 0⟩] scope pos) (tDx t wi g tt tk tv (own.map (·.2))) := ⟨fun pins s σ H Q I h => by
  rw [arm_eval_DictComp]
  have cells : ∀ y ∈ scope.names, y.2 = .free → ∃ c, X.env.cells.lookup y.1 = some c := fun y hy e => (ok.free y hy e).elim (fun k => I.ok.has _ (.inl k)) fun k => I.ok.has _ (.inr k)
  refine wpAny_comprehension_free rfl hs (closure_ok cells) ok.kind (fun y hy e => by rw [ok.uniq y hy, e]) (thn (hi.run pins s σ H _ I h) fun xv s1 hx => thn hx fun itv s2 => ?_)
  rintro ⟨it, fp, tn, J, H2, rfl, I2, T, st2, f2, q⟩
  refine wpAny_newObj_type (newEnv_comp ?_)
  generalize eD : s2.heap.objs.size = D
  obtain ⟨W, ⟨m0, w0⟩, turn⟩ := q D (I2.hok.fresh (Nat.le_of_eq eD))
  generalize es3 : ({ s2 with heap := s2.heap.push { cls := .type "dict", data := .dict #[] } } : Shared) = s3
  have p3 : s3.heap = s2.heap.push { cls := .type "dict", data := .dict #[] } := by rw [← es3]
  have kp3 : ∀ b o, s2.heap.get? b = some o → s3.heap.get? b = some o := fun b o e => by rw [p3]; exact Heap.get?_push_of_some _ e
  have I3 : L2.Inv X pins σ (upd H2 D (noKeys t)) s3 := by
    have nk := noKeys_ok t (P := X.prog) (w := X.w) (H := upd H2 D (noKeys t)) s2.heap I2.big
    rw [eD] at nk
    rw [← es3]
    exact I2.laid (t' := s2.toks) (fun b o e => Heap.get?_push_of_some _ e) (Nat.le_of_eq eD) nk
  have small : ∀ b ∈ fp, b < D := fun b hb => by
    obtain ⟨o, e, _⟩ := T.obj _ _ st2 b hb
    rw [← eD]
    exact Heap.lt_size e
  have f3 : ∀ b ∈ fp, FpOk X pins (upd H2 D (noKeys t)) b ∧ b < s3.heap.objs.size := fun b hb => by
    have lt := small b hb
    constructor
    · exact ⟨by rw [upd_ne (Nat.ne_of_lt lt)]; exact (f2 b hb).1, (f2 b hb).2⟩
    · rw [p3, Heap.size_push, eD]
      exact Nat.lt_succ_of_lt lt
  have I4 := block_start I3 ok hN f3
  generalize eH3 : upd H2 D (noKeys t) = H3 at I3 I4 f3 w0
  generalize ece : compEnvC scope (cellsFrom (s3.heap.objs.size + 1) scope.names (cloFrom X.env.cells scope.names [])) s3.heap.objs.size X.env = ce at I4
  have pg := parts.tgt s3 H3 s3.heap.objs.size (cellsFrom (s3.heap.objs.size + 1) scope.names (cloFrom X.env.cells scope.names [])) fp
  have pt := parts.tst s3 H3 s3.heap.objs.size (cellsFrom (s3.heap.objs.size + 1) scope.names (cloFrom X.env.cells scope.names [])) fp
  have pk := parts.key s3 H3 s3.heap.objs.size (cellsFrom (s3.heap.objs.size + 1) scope.names (cloFrom X.env.cells scope.names [])) fp
  have pv := parts.val s3 H3 s3.heap.objs.size (cellsFrom (s3.heap.objs.size + 1) scope.names (cloFrom X.env.cells scope.names [])) fp
  rw [ece] at pg pt pk pv
  have eL : ce.locals = s3.heap.objs.size := by rw [← ece]; rfl
  generalize es4 : ({ s3 with heap := pushCells (s3.heap.push { cls := .type "dict", data := .dict #[] }) scope.names } : Shared) = s4 at I4
  have st4 : tn 0 s4.heap := T.keep _ _ _ st2 fun b _ o e => by rw [← es4]; exact pushCells_keeps _ _ _ _ (Heap.get?_push_of_some _ (kp3 b o e))
  have loop : codeAny (model X.prog X.w) X.A (.compLoop (.DictComp kx vx [⟨tg, iter, ifs, 0⟩] scope pos) 0 (.ref it) (.ref D) ce) (compPost (model X.prog X.w) X.A X.xe none (EP X pins σ Q) (.ref D) s3.heap.objs.size) s4 := by
    refine compLoop_anyD (fun n s' => ∃ i H', L2.Inv (X.blk s3 H3 scope ce fp) [] (wipe σ (own.map (·.2))) H' s' ∧ tn i s'.heap ∧ (∀ b ∈ fp, H' b = none) ∧ W i n H') (fun n s5 inv => ?_) m0 ⟨0, H3, I4, st4, fun b hb => (f3 b hb).1.1, w0⟩
    obtain ⟨i, H5, I5, st5, n5, w5⟩ := inv
    rcases turn i n H5 w5 with ⟨stop, qd⟩ | ⟨go, Nx, hNx, body⟩
    · refine thnF (T.done (X.blk s3 H3 scope ce fp) rfl rfl rfl hc i [] s5 _ H5 (fun _ _ => False) I5 (fp_blk I5 n5) st5 stop) fun r s6 ⟨hr, I6⟩ => ?_
      subst hr
      obtain ⟨m, hn, _⟩ := I6.loc
      replace hn : s6.heap.Ns s3.heap.objs.size m := by rw [← eL]; exact hn
      have free : H5 s3.heap.objs.size = none := by rw [← eL]; exact I6.free
      have I7 : L2.Inv X pins σ H5 s6 := I3.call' (ch := fp) I6.os I6.base I6.hok I6.bare fun b hb => (f3 b hb).1.2.2.2 |> fun z => ⟨z.1, (f3 b hb).1.2.1, z.2⟩
      obtain ⟨a0, a1, a2, a3, a4, a5⟩ := I3.fpOk (Nat.le_refl _) free
      exact ⟨m, hn, fun h'' sb => ⟨.ref D, H5, I7.turned (t' := s6.toks) (fun b o hb e => (sb.2 b hb).trans e) a0 a1 a3 a4 a5, rfl, qd⟩⟩
    · refine thnF (T.item (X.blk s3 H3 scope ce fp) rfl rfl rfl hc i [] s5 _ H5 (fun _ _ => False) I5 (fp_blk I5 n5) st5 go) fun r s6 ⟨u, hr, h6⟩ => ?_
      subst hr
      refine thnF h6 fun _ s7 ⟨x, H7, I7, r7, y7, st7, n7⟩ => ?_
      refine thnF (pg.run _ s7 _ H7 x u _ (I7.pinned (fp_blk I7 n7) (T.obj _ _ st7)) r7 (body x H7 y7)) fun _ s8 ⟨σ8, H8, I8, hw8, q8⟩ => ?_
      have fin : ∀ {s' : Shared} {H' : Hp}, L2.Inv (X.blk s3 H3 scope ce fp) ([] ++ pinsAt fp s7.heap) σ8 H' s' → Nx H' → ∃ m, m < n ∧ ∃ i H', L2.Inv (X.blk s3 H3 scope ce fp) [] (wipe σ (own.map (·.2))) H' s' ∧ tn i s'.heap ∧ (∀ b ∈ fp, H' b = none) ∧ W i m H' := fun {s' H'} J1 nx => by
        obtain ⟨m', lt, w'⟩ := hNx H' nx
        have held : ∀ b ∈ fp, ∀ o, s7.heap.get? b = some o → s'.heap.get? b = some o ∧ H' b = none := fun b hb o e => by
          have z := J1.pin (b, o) (List.mem_append_right _ (List.mem_append_right _ (mem_pinsAt hb e)))
          exact ⟨z.1, z.2.1⟩
        refine ⟨m', lt, i + 1, H', J1.unpinned (pins := []) |>.weak (by rw [← hw8, wipe_length]) fun j v e => ?_, T.keep _ _ _ st7 fun b hb o e => (held b hb o e).1, fun b hb => ?_, w'⟩
        · rw [← hw8] at e
          exact (wipe_some e).1
        · obtain ⟨o, e, _⟩ := T.obj _ _ st7 b hb
          exact (held b hb o e).2
      refine thnF (pt.run _ s8 σ8 H8 _ I8 q8) fun b s9 ⟨H9, I9, q9⟩ => ?_
      cases b with
      | false => exact fin I9 q9
      | true =>
        refine thnF (pk.run _ s9 σ8 H9 _ I9 q9) fun z s10 ⟨yk, H10, I10, r10, q10⟩ => thnF (pv.run _ s10 σ8 H10 _ I10 q10) fun z2 s11 ⟨yv, H11, I11, r11, H6, dp, nx⟩ => ?_
        exact set_any (X := X.blk s3 H3 scope ce fp) hu I11 dp r10 r11 fun s12 I12 => fin I12 nx
  show codeAny _ _ (.compStart (.DictComp kx vx [⟨tg, iter, ifs, 0⟩] scope pos) 0 (.ref it) (.ref D) (compEnvC scope (cellsFrom (s3.heap.objs.size + 1) scope.names (cloFrom X.env.cells scope.names [])) s3.heap.objs.size X.env)) (compPost _ _ _ _ _ (.ref D) s3.heap.objs.size) s4
  rw [ece]
  exact codeAny_compStart_dict loop (T.self X.A 0 _ _ _ st4 loop)⟩
end
end Q
namespace Q
open PySem L2 PySem.Spec PyProof.Rows
/-! ### a dict gets a key -/
def putD {κ : Type} [DecidableEq κ] (kvs : List (κ × D)) (k : κ) (v : D) : List (κ × D) := if (kvs.any fun kv => decide (kv.1 = k)) = true then kvs.map (fun kv => if kv.1 = k then (kv.1, v) else kv) else kvs ++ [(k, v)]
def dropD {κ : Type} [DecidableEq κ] (kvs : List (κ × D)) (k : κ) : List (κ × D) := kvs.filter fun kv => decide (kv.1 ≠ k)
def putO (o : O) (k v : D) : Option O := match o with
  | .dK kvs => (keyD k).map fun key => .dK (putD kvs key v)
  | .dT kvs => (match k with
    | .tup ks => (keysD ks).map fun key => .dT (putD kvs key v)
    | _ => none)
  | _ => none
def lenO : O → Nat
  | .dK kvs => kvs.length
  | .dT kvs => kvs.length
  | .lst xs => xs.length
  | _ => 0
theorem RepK.any {φ F H} {k : Key} : ∀ {vs : List (Key × V)} {ds : List (Key × D)}, RepK φ F H vs ds → (vs.any fun kv => decide (kv.1 = k)) = (ds.any fun kv => decide (kv.1 = k))
  | _, _, .nil => rfl
  | _, _, .cons h t => by rw [List.any_cons, List.any_cons, t.any]
theorem RepT.any {φ F H} {k : List Key} : ∀ {vs : List (List Key × V)} {ds : List (List Key × D)}, RepT φ F H vs ds → (vs.any fun kv => decide (kv.1 = k)) = (ds.any fun kv => decide (kv.1 = k))
  | _, _, .nil => rfl
  | _, _, .cons h t => by rw [List.any_cons, List.any_cons, t.any]
theorem RepK.mapp {φ F H} {k : Key} {v : V} {d : D} (r : Rep φ F H v d) : ∀ {vs : List (Key × V)} {ds : List (Key × D)}, RepK φ F H vs ds → RepK φ F H (vs.map fun kv => if kv.1 = k then (kv.1, v) else kv) (ds.map fun kv => if kv.1 = k then (kv.1, d) else kv)
  | _, _, .nil => .nil
  | _, _, .cons (k := k') h t => by
    rw [List.map_cons, List.map_cons]
    dsimp only
    split
    · exact .cons r (t.mapp r)
    · exact .cons h (t.mapp r)
theorem RepT.mapp {φ F H} {k : List Key} {v : V} {d : D} (r : Rep φ F H v d) : ∀ {vs : List (List Key × V)} {ds : List (List Key × D)}, RepT φ F H vs ds → RepT φ F H (vs.map fun kv => if kv.1 = k then (kv.1, v) else kv) (ds.map fun kv => if kv.1 = k then (kv.1, d) else kv)
  | _, _, .nil => .nil
  | _, _, .cons (k := k') h t => by
    rw [List.map_cons, List.map_cons]
    dsimp only
    split
    · exact .cons r (t.mapp r)
    · exact .cons h (t.mapp r)
theorem RepK.snoc {φ F H} {k : Key} {v : V} {d : D} (r : Rep φ F H v d) : ∀ {vs : List (Key × V)} {ds : List (Key × D)}, RepK φ F H vs ds → RepK φ F H (vs ++ [(k, v)]) (ds ++ [(k, d)])
  | _, _, .nil => .cons r .nil
  | _, _, .cons h t => .cons h (t.snoc r)
theorem RepT.snoc {φ F H} {k : List Key} {v : V} {d : D} (r : Rep φ F H v d) : ∀ {vs : List (List Key × V)} {ds : List (List Key × D)}, RepT φ F H vs ds → RepT φ F H (vs ++ [(k, v)]) (ds ++ [(k, d)])
  | _, _, .nil => .cons r .nil
  | _, _, .cons h t => .cons h (t.snoc r)
theorem RepK.put {φ F H} {k : Key} {v : V} {d : D} {vs : List (Key × V)} {ds : List (Key × D)} (h : RepK φ F H vs ds) (r : Rep φ F H v d) : RepK φ F H (putK vs k v) (putD ds k d) := by
  unfold putK putD
  rw [h.any]
  split
  · exact h.mapp r
  · exact h.snoc r
theorem RepT.put {φ F H} {k : List Key} {v : V} {d : D} {vs : List (List Key × V)} {ds : List (List Key × D)} (h : RepT φ F H vs ds) (r : Rep φ F H v d) : RepT φ F H (putK vs k v) (putD ds k d) := by
  unfold putK putD
  rw [h.any]
  split
  · exact h.mapp r
  · exact h.snoc r
theorem RepK.drop {φ F H} {k : Key} : ∀ {vs : List (Key × V)} {ds : List (Key × D)}, RepK φ F H vs ds → RepK φ F H (dropK vs k) (dropD ds k)
  | _, _, .nil => .nil
  | _, _, .cons (k := k') (v := v) (d := d) (vs := vs) (ds := ds) h t => by
    unfold dropK dropD
    rw [List.filter_cons, List.filter_cons]
    dsimp only
    split
    · exact .cons h t.drop
    · exact t.drop
theorem RepT.drop {φ F H} {k : List Key} : ∀ {vs : List (List Key × V)} {ds : List (List Key × D)}, RepT φ F H vs ds → RepT φ F H (dropK vs k) (dropD ds k)
  | _, _, .nil => .nil
  | _, _, .cons (k := k') (v := v) (d := d) (vs := vs) (ds := ds) h t => by
    unfold dropK dropD
    rw [List.filter_cons, List.filter_cons]
    dsimp only
    split
    · exact .cons h t.drop
    · exact t.drop
theorem put_ok {c : C0} {W : Wd} {st : Ps} {σ : L2.St} {H : Hp} (P : Pre c W st σ H) {a : Addr} {o o' : O} {y z : V} {k d : D} (h : OwnAt W H a o) (hl : W.L.lookup a = none) (ty : Top W.φ W.F H y k) (rz : Rp W H z d) (hz : lenO o < sizeLine) (e : putO o k d = some o') :
    ∃ u u', H a = some u ∧ mutO u = true ∧ DPut (lockH W.L H) a y z (upd (lockH W.L H) a u') ∧ o'.owned = true ∧ o.owned = true ∧ (Fut W.φ W.F H W.φ W.F (upd H a u') → OwnAt W (upd H a u') a o') := by
  cases o with
  | dK kvs =>
    obtain ⟨key, e1, rfl⟩ := Option.map_eq_some_iff.mp e
    obtain ⟨xs, h1, h2⟩ := h
    have := key_rep ty e1
    subst this
    exact ⟨_, .dK (putK xs key z), h1, rfl, .k ((lock_at hl).trans h1) (by rw [h2.length]; exact hz), rfl, rfl, fun f => ⟨_, upd_same, (h2.put rz).fut f⟩⟩
  | dT kvs =>
    cases k with
    | tup ks =>
      obtain ⟨key, e1, rfl⟩ := Option.map_eq_some_iff.mp e
      obtain ⟨xs, h1, h2⟩ := h
      cases ty with
      | tup t1 t2 =>
        have := keys_rep t2 e1
        subst this
        exact ⟨_, .dT (putK xs key z), h1, rfl, .t ((lock_at hl).trans h1) (P.nol t1 rfl) (by rw [h2.length]; exact hz), rfl, rfl, fun f => ⟨_, upd_same, (h2.put rz).fut f⟩⟩
    | _ => cases e
  | _ => cases e
/-! ### {k: v for ..} -/
def dcW (tg : Tg) (tt : Tx) (fk fv : Ex) (vs : List Nat) (Q : O → Ps → Prop) : List D → O → Ps → Prop
  | [], acc, st => Q acc (st.wp vs)
  | d :: ds, acc, st => tg d (st.wp vs) fun st2 => tt E0k st2 fun b st3 => if b = true then fk E0k st3 fun r st4 => opt (frz st4 r) fun q => fv E0k q.2 fun r2 st5 => opt (frz st5 r2) fun q2 => lenO acc < sizeLine ∧ opt (putO acc q.1 q2.1) fun acc' => dcW tg tt fk fv vs Q ds acc' q2.2 else dcW tg tt fk fv vs Q ds acc st3
def noKeysO (t : Bool) : O := if t then .dT [] else .dK []
def xDc (t : Bool) (fi : Ix) (tg : Tg) (tt : Tx) (fk fv : Ex) (vs : List Nat) : Ox := fun E st Q => fi E st fun ds st1 => dcW tg tt fk fv vs Q ds (noKeysO t) st1
theorem noKeys_own (t : Bool) {W : Wd} {H : Hp} {D : Addr} : OwnAt W (upd H D (noKeys t)) D (noKeysO t) := by
  cases t
  · exact ⟨[], upd_same, .nil⟩
  · exact ⟨[], upd_same, .nil⟩
theorem noKeysO_owned (t : Bool) : (noKeysO t).owned = true := by cases t <;> rfl
theorem dc_go {c : C0} {t : Bool} {fi : Ix} {tg : Tg} {tt : Tx} {fk fv : Ex} {vs is : List Nat} {σ : L2.St} {H : Hp} {Q : VK} (hv : ∀ i ∈ is, i ∈ vs) (h : tO c (xDc t fi tg tt fk fv vs) σ H Q) : tDx t (tXI c fi) (gAny c tg is) (tAny c tt) (eAny c fk) (eAny c fv) vs σ H Q := by
  obtain ⟨W, st, H1, Q0, hH, P, q, k⟩ := h
  refine ⟨W, st, H1, _, hH, P, q, fun ds st1 W1 H2 J q1 s1 P1 go => fun D hD => ?_⟩
  obtain ⟨d1, d2⟩ := P1.lnone' hD
  obtain ⟨sD, PD, f1, f2, f3, f4, f5⟩ := P1.fresh (o := noKeys t) d1
  have PB : Pre (c.blk D) W1 (st1.wp vs) σ (upd H2 D (noKeys t)) := (PD.res ⟨f1, f2, ⟨_, upd_same⟩, f4⟩).wp rfl rfl rfl rfl fun _ z => z
  have down : ∀ {Wx Wy Hx Hy ox stx}, Pre (c.blk D) Wx stx σ Hx → Step c.rw Wx Hx Wy Hy → OwnAt Wx Hx D ox → OwnAt Wy Hy D ox := fun {Wx Wy Hx Hy ox stx} Px sx hx => by
    obtain ⟨u, hu, _⟩ := hx.there
    exact hx.fut (Px.fut sx) (by rw [hu]; exact blk_at Px sx hu)
  refine ⟨fun i m Hh => m = ds.length - i ∧ i ≤ ds.length ∧ ∃ W2 st2 H3 acc, Hh = lockH W2.L H3 ∧ Pre (c.blk D) W2 (st2.wp vs) σ H3 ∧ Step c.rw W1 H2 W2 H3 ∧ OwnAt W2 H3 D acc ∧ acc.owned = true ∧ dcW tg tt fk fv vs Q0 (ds.drop i) acc st2,
    ⟨ds.length, by simp, Nat.zero_le _, W1, st1, _, noKeysO t, lock_upd d2, PB, sD, noKeys_own t, noKeysO_owned t, q1⟩, ?_⟩
  rintro i m Hh ⟨rfl, hi, W2, st2, H3, acc, rfl, P2, s2, hx, ho, q2⟩
  obtain ⟨g1, g2⟩ := go (c.blk D).R W2 _ σ H3 (P2.ctx rfl rfl rfl fun _ z => z) (P1.aft s2)
  by_cases hlt : i < ds.length
  · obtain ⟨g3, g4⟩ := g1 i ds[i] (List.getElem?_eq_getElem hlt)
    rw [List.drop_eq_getElem_cons hlt] at q2
    refine .inr ⟨g3, fun H' => i + 1 ≤ ds.length ∧ ∃ W2 st2 H3 acc, H' = lockH W2.L H3 ∧ Pre (c.blk D) W2 (st2.wp vs) σ H3 ∧ Step c.rw W1 H2 W2 H3 ∧ OwnAt W2 H3 D acc ∧ acc.owned = true ∧ dcW tg tt fk fv vs Q0 (ds.drop (i + 1)) acc st2, fun H' z => ⟨ds.length - (i + 1), by omega, rfl, z⟩, fun x H' y => ?_⟩
    obtain ⟨H4, rfl, s4, P4, r4⟩ := YD.ok P2 (g4 x H' y)
    have x4 : OwnAt W2 H4 D acc := by
      obtain ⟨u, hu, _⟩ := hx.there
      exact hx.fut (P2.fut s4) (by rw [hu]; exact blk_at P2 s4 hu)
    refine ⟨D, W2, st2.wp vs, H4, _, _, rfl, P4.sig (wipe_in fun _ z => z), r4, q2, fun st5 σ5 q5 P5 w5 => ?_⟩
    have e5 : wipe σ5 vs = wipe σ vs := (w5 vs hv).trans (wipe_in fun _ z => z)
    have dwn : ∀ {Wx Wy Hx Hy ox stx}, Pre (c.blk D) Wx stx σ5 Hx → Step c.rw Wx Hx Wy Hy → OwnAt Wx Hx D ox → OwnAt Wy Hy D ox := fun {Wx Wy Hx Hy ox stx} Px sx hx => by
      obtain ⟨u, hu, _⟩ := hx.there
      exact hx.fut (Px.fut sx) (by rw [hu]; exact blk_at Px sx hu)
    refine ⟨e5, D, W2, st5, H4, _, rfl, P5, q5, fun b st6 W6 H6 q6 s6 P6 => ?_⟩
    have x6 := dwn P5 s6 x4
    cases b with
    | false => exact iteF ⟨hlt, W6, st6, H6, acc, rfl, P6.wp e5.symm rfl rfl rfl fun _ z => z, (s2.trans s4).trans s6, x6, ho, q6⟩
    | true =>
      refine iteT ⟨D, W6, st6, H6, _, rfl, P6, q6, fun r st7 v W7 H7 q7 s7 P7 rv => ?_⟩
      obtain ⟨⟨y, st8⟩, e8, q8⟩ := opt_ex q7
      obtain ⟨W8, s8, P8, r8, eL⟩ := frz_ok P7 e8 rv
      rw [← eL]
      refine ⟨D, W8, st8, H7, _, rfl, P8, q8, fun r2 st9 v2 W9 H9 q9 s9 P9 rv2 => ?_⟩
      obtain ⟨⟨y2, st10⟩, e10, hl, q10⟩ := opt_ex q9
      obtain ⟨acc', e11, q11⟩ := opt_ex q10
      obtain ⟨W10, s10, P10, r10, eL2⟩ := frz_ok P9 e10 rv2
      have x10 := dwn P9 s10 (dwn P8 s9 (dwn P7 s8 (dwn P6 s7 x6)))
      have ry : Rp W10 H9 v y := (r8.fut (P8.fut s9)).fut (P9.fut s10)
      have ul := P10.lown (P10.rsv D (.inr rfl)).1 (P10.rsv D (.inr rfl)).2.1
      obtain ⟨u, u', hu, hm, dp, ho', _, nw⟩ := put_ok P10 x10 ul ry.top r10 hl e11
      obtain ⟨P11, f11⟩ := P10.mutR (u' := u') (.inr rfl) f3 hu hm
      rw [← eL2]
      refine ⟨_, dp, hlt, W10, st10, upd H9 D u', acc', lock_upd ul, P11.wp e5.symm rfl rfl rfl fun _ z => z, ((((((s2.trans s4).trans s6).trans s7).trans s8).trans s9).trans s10).updN d1, nw f11, ho', q11⟩
  · have e : i = ds.length := by omega
    rw [e, List.drop_length] at q2
    obtain ⟨k1, k2, k3, k4⟩ := P2.rsv D (.inr rfl)
    exact .inl ⟨g2 i (by omega), k _ _ _ _ _ q2 (s1.trans s2) (P2.ctx rfl rfl rfl fun _ z => .inl z) (OV.of_own ho ⟨hx, k1, k2, f3, k4, f5⟩)⟩
theorem po_dc {X : Cx} {t : Bool} {kx vx tge iter : Expr} {ifs : List Expr} {scope : Scope} {own : List (Str × Nat)} {pos : Pos} {fi : Ix} {tg : Tg} {is : List Nat} {tt : Tx} {fk fv : Ex} (hu : X.A.units < cLine) (hc : X.calm = true) (hN : X.N.Nodup) (hi : PXI X tge iter fi) (ok : BlkOk X.N X.env.scope scope own) (hv : ∀ i ∈ is, i ∈ own.map (·.2))
    (hg : ∀ (s : Shared) (H : Hp) (C : Addr) (cl : List (Str × Addr)) (fp : List Addr), PXG (X.blk s H scope (compEnvC scope cl C X.env) fp) tge tg is) (ht : ∀ (s : Shared) (H : Hp) (C : Addr) (cl : List (Str × Addr)) (fp : List Addr), PXTs (X.blk s H scope (compEnvC scope cl C X.env) fp) ifs tt)
    (hk : ∀ (s : Shared) (H : Hp) (C : Addr) (cl : List (Str × Addr)) (fp : List Addr), PX (X.blk s H scope (compEnvC scope cl C X.env) fp) kx fk) (he : ∀ (s : Shared) (H : Hp) (C : Addr) (cl : List (Str × Addr)) (fp : List Addr), PX (X.blk s H scope (compEnvC scope cl C X.env) fp) vx fv) (hs : ∀ x, foldedSetIterable iter X.env x = pure x := by intro _; rfl) :
    PO X (.DictComp kx vx [⟨tge, iter, ifs, 0⟩] scope pos) (xDc t fi tg tt fk fv (own.map (·.2))) := fun c l =>
  peOf (pe_dx hu hc hN (hi c l) ok ⟨fun s H C cl fp => pg_any c (hg s H C cl fp), fun s H C cl fp => pts_any c (ht s H C cl fp), fun s H C cl fp => pe_any c (hk s H C cl fp), fun s H C cl fp => pe_any c (he s H C cl fp)⟩ hs) fun σ H Q h => dc_go hv h
end Q
namespace Q
open PySem L2 PySem.Spec PyProof.Rows
/-! ### items and values: the dict is locked first -/
def tLkK (td : TE) : TE := fun σ H Q => td σ H fun x H1 => ∃ d kvs, x = .ref d ∧ ((∃ o, H1 d = some (.frz o (.dK kvs)) ∧ Q x H1) ∨ (H1 d = some (.dK kvs) ∧ ∀ o, Q x (upd H1 d (.frz o (.dK kvs)))))
section
variable {X : Cx} {tg e iter : Expr} {f : Ex} {apos cpos : Pos}
theorem pe_lkK {td : TE} (h : PE X e td) : PE X e (tLkK td) := ⟨fun pins s σ H Q I q => thn (h.run pins s σ H _ I q) fun u s1 ⟨x, H1, I1, rx, d, kvs, ex, q1⟩ => by
  rcases q1 with ⟨o, _, q1⟩ | ⟨hd, q1⟩
  · exact ⟨x, H1, I1, rx, q1⟩
  · obtain ⟨od, I2⟩ := I1.lock hd trivial
    exact ⟨x, _, I2, rx, q1 od⟩⟩
/-- the dict, locked -/
theorem lkK_go {c : C0} {W : Wd} {st : Ps} {σ : L2.St} {H : Hp} (P : Pre c W st σ H) {v : V} {kvs : List (Key × D)} (r : Rp W H v (.dK kvs)) {Q : V → Hp → Prop}
    (k : ∀ d o xs W', v = .ref d → Step c.rw W H W' H → Pre c W' st σ H → W'.F d → W'.L.lookup d = some o → H d = some (.dK xs) → RepK W'.φ W'.F H xs kvs → Q v (lockH W'.L H)) :
    ∃ d xs, v = .ref d ∧ ((∃ o, lockH W.L H d = some (.frz o (.dK xs)) ∧ Q v (lockH W.L H)) ∨ (lockH W.L H d = some (.dK xs) ∧ ∀ o, Q v (upd (lockH W.L H) d (.frz o (.dK xs))))) := by
  cases r with
  | dK h1 h2 h3 =>
    rename_i a xs
    refine ⟨a, xs, rfl, ?_⟩
    cases hl : W.L.lookup a with
    | some o => exact .inl ⟨o, by show lockH W.L H a = _; unfold lockH; rw [hl, h2]; rfl, k _ _ _ _ rfl (.refl _ _ _) P h1 hl h2 h3⟩
    | none =>
      refine .inr ⟨(lock_at hl).trans h2, fun o => ?_⟩
      obtain ⟨s3, P3, e3⟩ := P.lock o (.inl h1) h2 rfl hl
      rw [← e3]
      exact k a o xs (W.lk a o) rfl s3 P3 h1 (by show ((a, o) :: W.L).lookup a = _; rw [List.lookup_cons]; simp) h2 h3
def itemsOf (kvs : List (Key × D)) : List D := kvs.map fun kv => .tup [kD kv.1, kv.2]
theorem goes_i {c : C0} {W : Wd} {H : Hp} {d : Addr} {o : Obj} {xs : List (Key × V)} {ds : List (Key × D)} (hF : W.F d) (hl : W.L.lookup d = some o) (h : H d = some (.dK xs)) (r : RepK W.φ W.F H xs ds) : Goes c W H (Iti d o xs) (itemsOf ds) := fun Z W2 st2 σ2 H2 P2 a2 => by
  have h2 := lk_at P2 a2 hF hl h
  have hlen := r.length
  refine ⟨fun i x e => ?_, fun i hi => ⟨h2, by unfold itemsOf at hi; rw [List.length_map] at hi; omega⟩⟩
  have hi : i < ds.length := by
    have := (List.getElem?_eq_some_iff.mp e).1
    unfold itemsOf at this
    rw [List.length_map] at this
    exact this
  refine ⟨⟨h2, by omega⟩, ?_⟩
  rintro y H3 ⟨T, k, v, e1, rfl, hT, rfl⟩
  obtain ⟨d', e2, rd⟩ := (r.fut a2.fut).get e1
  unfold itemsOf at e
  rw [List.getElem?_map, e2] at e
  cases e
  obtain ⟨t1, t2⟩ := lnone_of P2 hT
  exact .inr ⟨T, _, _, rfl, t1, t2, rfl, rfl, .cons (kD_rep _ _ _ k) (.cons rd .nil)⟩
theorem goes_v {c : C0} {W : Wd} {H : Hp} {d : Addr} {o : Obj} {xs : List (Key × V)} {ds : List (Key × D)} (hF : W.F d) (hl : W.L.lookup d = some o) (h : H d = some (.dK xs)) (r : RepK W.φ W.F H xs ds) : Goes c W H (Itd d o xs) (ds.map (·.2)) := fun Z W2 st2 σ2 H2 P2 a2 => by
  have h2 := lk_at P2 a2 hF hl h
  have hlen := r.length
  refine ⟨fun i x e => ?_, fun i hi => ⟨h2, by rw [List.length_map] at hi; omega⟩⟩
  have hi : i < ds.length := by
    have := (List.getElem?_eq_some_iff.mp e).1
    rw [List.length_map] at this
    exact this
  refine ⟨⟨h2, by omega⟩, ?_⟩
  rintro y H3 ⟨rfl, k, e1⟩
  obtain ⟨d', e2, rd⟩ := (r.fut a2.fut).get e1
  rw [List.getElem?_map, e2] at e
  cases e
  exact .inl ⟨rfl, rd⟩
def dkOf : D → Option (List (Key × D))
  | .dK kvs => some kvs
  | _ => none
theorem dkOf_eq {d : D} {kvs : List (Key × D)} (h : dkOf d = some kvs) : d = .dK kvs := by
  cases d with
  | dK _ => cases h; rfl
  | _ => cases h
def iIt (f : Ex) : Ix := fun E st Q => f E st fun r st1 => opt (frz st1 r) fun q => opt (dkOf q.1) fun kvs => Q (itemsOf kvs) q.2
def iVl (f : Ex) : Ix := fun E st Q => f E st fun r st1 => opt (frz st1 r) fun q => opt (dkOf q.1) fun kvs => Q (kvs.map (·.2)) q.2
theorem pxi_it (h : ∀ {td : TE}, PE X e td → PI X tg iter (iItems td)) (he : PX X e f) : PXI X tg iter (iIt f) := fun c l => piOf (h (pe_lkK (he c l))) fun σ H R ⟨W, st, H1, Q0, hH, P, q, k⟩ => ⟨W, st, H1, _, hH, P, q, fun r st1 v W1 H2 q1 s1 P1 rv => by
  obtain ⟨⟨y, st2⟩, e1, q1⟩ := opt_ex q1
  obtain ⟨kvs, e2, q1⟩ := opt_ex q1
  obtain ⟨W2, s2, P2, r2, eL⟩ := frz_ok P1 e1 rv
  have := dkOf_eq e2
  dsimp only at this q1 r2 P2
  subst this
  rw [← eL]
  exact lkK_go (Q := fun x H1 => ∃ d o kvs, x = V.ref d ∧ H1 d = some (HO.frz o (HO.dK kvs)) ∧ R (Iti d o kvs) H1) P2 r2 fun d o xs W3 ev s3 P3 hF hl hd rk => ⟨d, o, xs, ev, by show lockH W3.L H2 d = _; unfold lockH; rw [hl, hd]; rfl, k _ _ _ _ _ q1 ((s1.trans s2).trans s3) P3 (goes_i hF hl hd rk)⟩⟩
theorem pxi_vl (h : ∀ {td : TE}, PE X e td → PI X tg iter (iVals td)) (he : PX X e f) : PXI X tg iter (iVl f) := fun c l => piOf (h (pe_lkK (he c l))) fun σ H R ⟨W, st, H1, Q0, hH, P, q, k⟩ => ⟨W, st, H1, _, hH, P, q, fun r st1 v W1 H2 q1 s1 P1 rv => by
  obtain ⟨⟨y, st2⟩, e1, q1⟩ := opt_ex q1
  obtain ⟨kvs, e2, q1⟩ := opt_ex q1
  obtain ⟨W2, s2, P2, r2, eL⟩ := frz_ok P1 e1 rv
  have := dkOf_eq e2
  dsimp only at this q1 r2 P2
  subst this
  rw [← eL]
  exact lkK_go (Q := fun x H1 => ∃ d o kvs, x = V.ref d ∧ H1 d = some (HO.frz o (HO.dK kvs)) ∧ R (Itd d o kvs) H1) P2 r2 fun d o xs W3 ev s3 P3 hF hl hd rk => ⟨d, o, xs, ev, by show lockH W3.L H2 d = _; unfold lockH; rw [hl, hd]; rfl, k _ _ _ _ _ q1 ((s1.trans s2).trans s3) P3 (goes_v hF hl hd rk)⟩⟩
end
/-! ### a slot's dict is changed -/
section
variable {X : Cx} {e : Expr} {fk fv : Ex} {s : Stmt} {i : Nat}
def isDct : O → Bool
  | .dK _ => true
  | .dT _ => true
  | _ => false
theorem dct_owned {o : O} (h : isDct o = true) : o.owned = true := by cases o <;> first | rfl | cases h
def dSlot (st : Ps) (i : Nat) : Prop := ∃ o, st.ρ[i]? = some o ∧ isDct o = true
def sDput (i : Nat) (fk fv : Ex) : Sx := fun E K st => fv E st fun r1 st1 => opt (frz st1 r1) fun q => dSlot q.2 i ∧ fk E q.2 fun r2 st2 => opt (look st2 r2) fun k => opt st2.ρ[i]? fun o => lenO o < sizeLine ∧ opt (putO o k q.1) fun o' => K.nx { st2 with ρ := st2.ρ.set i o' }
theorem Pre.slotA {c : C0} {W : Wd} {st : Ps} {σ : L2.St} {H : Hp} (P : Pre c W st σ H) {o : O} (h : st.ρ[i]? = some o) (ho : o.owned = true) : ∃ a, σ[i]? = some (some (.ref a)) ∧ OwnAt W H a o ∧ slotOwns st.ρ σ i a ∧ W.L.lookup a = none := by
  have so := P.slot i o h
  obtain ⟨a, e1, e2⟩ := SlotOk.own ho so
  have hs : slotOwns st.ρ σ i a := ⟨o, h, ho, join_ref e1⟩
  exact ⟨a, join_ref e1, e2, hs, P.lown (P.sown i a hs).1 (P.sown i a hs).2.1⟩
theorem put_slot {c : C0} {W : Wd} {st : Ps} {σ : L2.St} {H : Hp} (P : Pre c W st σ H) {a : Addr} {o o' : O} {y z : V} {k d : D} (h : st.ρ[i]? = some o) (ha : σ[i]? = some (some (.ref a))) (ty : Top W.φ W.F H y k) (rz : Rp W H z d) (hz : lenO o < sizeLine) (e : putO o k d = some o') :
    ∃ H', DPut (lockH W.L H) a y z (lockH W.L H') ∧ Pre c W { st with ρ := st.ρ.set i o' } σ H' ∧ Aft W H W H' := by
  have ho : o.owned = true := by
    cases o with
    | dK _ => rfl
    | dT _ => rfl
    | _ => cases e
  obtain ⟨b, e1, oa, hs, ul⟩ := P.slotA h ho
  rw [ha] at e1
  cases e1
  obtain ⟨u, u', hu, hm, dp, ho', _, nw⟩ := put_ok P oa ul ty rz hz e
  refine ⟨upd H a u', ?_, P.mutate h ho ha ho' nw, ⟨fut_mut W (P.sown i a hs).1 hu hm, [], rfl⟩⟩
  rw [← lock_upd ul]
  exact dp
theorem pxs_dput {kx vx : Expr} (h : ∀ {ty tv : TE}, PE X kx ty → PE X vx tv → PS X s (sDPut (tVar i) ty tv)) (hk : PX X kx fk) (hv : PX X vx fv) : PXS X s (sDput i fk fv) := fun c l => psOf (h (hk c l) (hv c l)) fun D σ H ⟨W, st, H1, K, hH, P, ek, q⟩ =>
  ⟨W, st, H1, _, hH, P, q, fun r1 st1 v W1 H2 q1 s1 P1 rv => by
    obtain ⟨⟨y, st2⟩, e1, ⟨o0, ho0, hd0⟩, q1⟩ := opt_ex q1
    obtain ⟨W2, s2, P2, r2, eL⟩ := frz_ok P1 e1 rv
    dsimp only at q1 P2 r2 ho0
    obtain ⟨a, ha, _, _, _⟩ := P2.slotA ho0 (dct_owned hd0)
    rw [← eL]
    refine ⟨_, ha, W2, st2, H2, _, rfl, P2, q1, fun r3 st3 v3 W3 H3 q3 s3 P3 rv3 => ?_⟩
    obtain ⟨k, e3, q3⟩ := opt_ex q3
    obtain ⟨o, e4, hz, q3⟩ := opt_ex q3
    obtain ⟨o', e5, q3⟩ := opt_ex q3
    obtain ⟨H4, dp, P4, a4⟩ := put_slot P3 e4 ha (P3.top rv3 e3) (r2.fut (P2.fut s3)) hz e5
    exact ⟨a, _, rfl, dp, ek.1 _ _ _ _ q3 P4 ((((P.aft s1).trans (P1.aft s2)).trans (P2.aft s3)).trans a4)⟩⟩
/-- d[k] op= v, the values plain -/
def sDaug (g : D → D → Option O) (i : Nat) (fk fv : Ex) : Sx := fun E K st => dSlot st i ∧ fk E st fun r1 st1 => opt (frz st1 r1) fun q => opt q.2.ρ[i]? fun o => isDct o = true ∧ opt (getD o.toD q.1) fun z => opt z fun d0 => fv E q.2 fun r2 st2 => opt (look st2 r2) fun d2 => opt (g d0 d2) fun res => match res with
  | .d x => opt st2.ρ[i]? fun o2 => lenO o2 < sizeLine ∧ opt (putO o2 q.1 x) fun o' => K.nx { st2 with ρ := st2.ρ.set i o' }
  | _ => False
theorem pxs_daug {kx vx : Expr} {r : V → V → Hp → VK → Prop} {g : D → D → Option O} (hg : OpG r g) (h : ∀ {ty tv : TE}, PE X kx ty → PE X vx tv → PS X s (sDAug (tVar i) ty tv r)) (hk : PX X kx fk) (hv : PX X vx fv) : PXS X s (sDaug g i fk fv) := fun c l => psOf (h (hk c l) (hv c l)) fun D σ H ⟨W, st, H1, K, hH, P, ek, ⟨o0, ho0, hd0⟩, q⟩ => by
  obtain ⟨a, ha, _, _, _⟩ := P.slotA ho0 (dct_owned hd0)
  refine ⟨_, ha, W, st, H1, _, hH, P, q, fun r1 st1 v W1 H2 q1 s1 P1 rv => ?_⟩
  obtain ⟨⟨y, st2⟩, e1, q1⟩ := opt_ex q1
  obtain ⟨o, e2, hd, q1⟩ := opt_ex q1
  obtain ⟨z, e3, q1⟩ := opt_ex q1
  obtain ⟨d0, e4, q1⟩ := opt_ex q1
  subst e4
  obtain ⟨W2, s2, P2, r2, eL⟩ := frz_ok P1 e1 rv
  dsimp only at q1 P2 r2 e2 e3
  rw [← eL]
  obtain ⟨b, hb, oa, _, _⟩ := P2.slotA e2 (dct_owned hd)
  rw [ha] at hb
  cases hb
  obtain ⟨a', rr, ea, dg, _, kk⟩ := get_ok P2 oa.top r2.top e3
  cases ea
  obtain ⟨v0, rfl, rv0⟩ := kk d0 rfl
  refine ⟨a, v0, rfl, dg, W2, st2, H2, _, rfl, P2, q1, fun r3 st3 v3 W3 H3 q3 s3 P3 rv3 => ?_⟩
  obtain ⟨d2, e5, q3⟩ := opt_ex q3
  obtain ⟨res, e6, q3⟩ := opt_ex q3
  refine hg c W3 st3 σ H3 v0 v3 d0 d2 res _ P3 (rv0.fut (P2.fut s3)).top (P3.top rv3 e5) e6 fun v4 W4 H4 s4 P4 ov => ?_
  split at q3
  · obtain ⟨o2, e7, hz, q3⟩ := opt_ex q3
    obtain ⟨o', e8, q3⟩ := opt_ex q3
    obtain ⟨H5, dp, P5, a5⟩ := put_slot P4 e7 ha ((r2.fut (P2.fut s3)).fut (P3.fut s4)).top ov hz e8
    exact ⟨_, dp, ek.1 _ _ _ _ q3 P5 (((((P.aft s1).trans (P1.aft s2)).trans (P2.aft s3)).trans (P3.aft s4)).trans a5)⟩
  · exact q3.elim
/-- d.pop(k) -/
def sDpop (i : Nat) (fk : Ex) : Sx := fun E K st => (∃ kvs, st.ρ[i]? = some (.dK kvs)) ∧ fk E st fun r st1 => opt (look st1 r) fun d => opt (keyD d) fun k => match st1.ρ[i]? with
  | some (.dK kvs) => (valD kvs k).isSome = true ∧ K.nx { st1 with ρ := st1.ρ.set i (.dK (dropD kvs k)) }
  | _ => False
theorem pxs_dpop {kx : Expr} (h : ∀ {ty : TE}, PE X kx ty → PS X s (tDrop (tDPop1 (tVar i) ty))) (hk : PX X kx fk) : PXS X s (sDpop i fk) := fun c l => psOf (h (hk c l)) fun D σ H ⟨W, st, H1, K, hH, P, ek, ⟨kvs0, hk0⟩, q⟩ => by
  subst hH
  obtain ⟨a, ha, ⟨xs0, hx0, _⟩, _, ul⟩ := P.slotA hk0 rfl
  refine ⟨_, ha, a, rfl, .inl ⟨xs0, .inl ((lock_at ul).trans hx0)⟩, W, st, H1, _, rfl, P, q, fun r st1 v W1 H2 q1 s1 P1 rv => ?_⟩
  obtain ⟨d, e1, q1⟩ := opt_ex q1
  obtain ⟨k, e2, q1⟩ := opt_ex q1
  have := key_rep (P1.top rv e1) e2
  subst this
  split at q1
  · rename_i kvs e3
    obtain ⟨b, hb, ⟨xs, hx, rx⟩, hs, ul1⟩ := P1.slotA e3 rfl
    rw [ha] at hb
    cases hb
    obtain ⟨w, hw⟩ := Option.isSome_iff_exists.mp (rx.val.1.trans q1.1)
    refine ⟨xs, k, w, (lock_at ul1).trans hx, rfl, hw, ?_⟩
    rw [lock_upd ul1]
    exact ek.1 _ _ _ _ q1.2 (P1.mutate e3 rfl ha rfl fun f => ⟨_, upd_same, (rx.drop).fut f⟩) ((P.aft s1).trans ⟨fut_mut W1 (P1.sown i a hs).1 hx rfl, [], rfl⟩)
  · exact q1.elim
end
end Q
namespace Q
open PySem L2 PySem.Spec PyProof.Rows
/-! ### defs with *rest -/
section
variable {P : Program} {w : World} {K : PySem.W.Frag} {mg : Str → Option Value} {base : Heap}
theorem body_M {X : Cx} {N : List Str} {body : List Stmt} {b : Sx} {rw : Bool} {np : Nat} {vs : List V} {H : Hp} {Q : VK} {E : XK} (hN : np ≤ N.length) (h : spM rw np (mk rw N.length b) vs H Q E) (hb : PXB X body b) (hX : X.H_0 = H) (tk : Takes X (fun cls d _ H => E cls d H)) :
    ∃ t, PSs X body t ∧ t { nx := fun _ H' => Q .non H', rt := Q } (L2.start N vs) H := by
  obtain ⟨W, S', H1, ds, Q0, E0, rfl, B, r, hl, q, kr, ke⟩ := h
  have hX' : ∀ d o' u', X.H_0 d = some (.frz o' u') → lockH W.L H1 d = some (.frz o' u') := fun d o' u' e => by rw [hX] at e; exact e
  refine ⟨_, pssUnl (hb ⟨W, H1, rw, fun C fs st => E0 C fs st.S, fun _ => False⟩ ?_), ?_⟩
  · refine Takes.imp (takesUnl tk) ?_
    rintro cls od σ H ⟨W', st', H2, C, fs, rfl, P', rfl, ex, e0⟩
    obtain ⟨un, s1, B1⟩ := P'.exit (X := X) B hX'
    exact ⟨_, un, ke C fs st'.S od _ H2 e0 s1 P'.new B1 rfl ex⟩
  · refine ⟨W, st0 rw N.length ds S', H1, ⟨fun st => Q0 (.d .non) st.S, fun o st => Q0 o st.S, fun _ => False, fun _ => False⟩, rfl, pre0 B r (by omega), ⟨fun st' W' σ' H2 q' P' _ => ?_, fun o st' W' σ' H2 v q' P' _ ov => ?_, fun st' W' σ' H2 q' P' _ => q'.elim, fun st' W' σ' H2 q' P' _ => q'.elim⟩, q⟩
    · obtain ⟨un, s1, B1⟩ := P'.exit (X := X) B hX'
      exact ⟨_, un, kr _ _ _ _ H2 q' s1 P'.new B1 rfl (.non : Rp W' H2 .non .non)⟩
    · obtain ⟨un, s1, B1⟩ := P'.exit (X := X) B hX'
      exact ⟨_, un, kr _ _ _ _ H2 q' s1 P'.new B1 rfl (RO.of_OV ov)⟩
def spStar (n : Nat) (sp : Sp) : Sp := fun vs H Q E => ∃ ws rest, vs = ws ++ rest ∧ ws.length = n ∧ rest.length ≤ sizeLine ∧ ∀ p, H p = Option.none → sp (ws ++ [V.ref p]) (upd H p (.tup rest)) Q E
theorem RO.old {W : Wd} {H0 H0' H : Hp} {v : V} {o : O} (h : RO W H0' H v o) (e : ∀ a, H0' a = none → H0 a = none) : RO W H0 H v o := by
  cases o with
  | un => exact h
  | d x => exact h
  | lst _ => obtain ⟨a, h1, h2, h3, h4, h5⟩ := h; exact ⟨a, h1, h2, h3, h4, e a h5⟩
  | dK _ => obtain ⟨a, h1, h2, h3, h4, h5⟩ := h; exact ⟨a, h1, h2, h3, h4, e a h5⟩
  | dT _ => obtain ⟨a, h1, h2, h3, h4, h5⟩ := h; exact ⟨a, h1, h2, h3, h4, e a h5⟩
  | ins _ _ _ => obtain ⟨a, h1, h2, h3, h4, h5⟩ := h; exact ⟨a, h1, h2, h3, h4, e a h5⟩
theorem Base.lnone {rw : Bool} {W : Wd} {S : List Cell} {H : Hp} (B : Base rw W S H) {p : Addr} (h : lockH W.L H p = none) : H p = none ∧ W.L.lookup p = none := by
  have h1 := lock_none h
  refine ⟨h1, ?_⟩
  cases e : W.L.lookup p with
  | none => rfl
  | some o =>
    obtain ⟨_, u, q, _⟩ := B.lF p o e
    rw [h1] at q
    cases q
theorem upd_none {H : Hp} {p a : Addr} {o : HO} (h : upd H p o a = none) : H a = none := by
  unfold upd at h
  split at h
  · cases h
  · exact h
theorem star_M {k np : Nat} {rw : Bool} {m : MF} {vs : List V} {H : Hp} {Q : VK} {E : XK} (h : spM rw np (mStar k m) vs H Q E) : spStar k (spM rw (k + 1) m) vs H Q E := by
  obtain ⟨W, S, H1, ds, Q0, E0, rfl, B, r, hl, ⟨hk, hz, q⟩, kr, ke⟩ := h
  have e1 := r.length
  refine ⟨vs.take k, vs.drop k, (List.take_append_drop k vs).symm, by rw [List.length_take]; omega, by rw [List.length_drop, e1, ← List.length_drop]; exact hz, fun p hp => ?_⟩
  obtain ⟨p1, p2⟩ := B.lnone hp
  have f := fut_new W (o := .tup (vs.drop k)) p1
  have sn : ∀ rw, Step rw W H1 W (upd H1 p (.tup (vs.drop k))) := fun rw => step_new rw W p1
  have app : ∀ {xs : List V} {es : List D} {x : V} {e : D}, RepL W.φ W.F (upd H1 p (.tup (vs.drop k))) xs es → Rep W.φ W.F (upd H1 p (.tup (vs.drop k))) x e → RepL W.φ W.F (upd H1 p (.tup (vs.drop k))) (xs ++ [x]) (es ++ [e]) := fun h1 h2 => h1.snoc h2
  refine ⟨W, S, upd H1 p (.tup (vs.drop k)), starD k ds, Q0, E0, lock_upd p2, B.later (sn false), app ((r.take k).fut f) (.tup upd_same ((r.drop k).fut f)), ?_, q, fun o S' v W' H2 q0 s n B' el ro => ?_, fun C fs S' od W' H2 q0 s n B' el ex => ?_⟩
  · unfold starD
    rw [List.length_append, List.length_take, List.length_singleton]
    omega
  · exact kr o S' v W' H2 q0 ((sn rw).trans s) (fun a ha => (n a ha).elim .inl fun z => .inr (upd_none z)) B' el (ro.old fun a => upd_none)
  · exact ke C fs S' od W' H2 q0 ((sn rw).trans s) (fun a ha => (n a ha).elim .inl fun z => .inr (upd_none z)) B' el ex
theorem star_I {k np : Nat} {rw : Bool} {C : Addr} {m : MI} {vs : List V} {H : Hp} {Q : VK} {E : XK} (h : spI C rw np (iStar k m) vs H Q E) : spStar (k + 1) (spI C rw (k + 1) m) vs H Q E := by
  obtain ⟨W, S, H1, x, dx, xs0, fs0, vs', ds, Q0, E0, rfl, rfl, B, hx, rf, hF, ho, r, hl, ⟨hk, hz, q⟩, kr, ke⟩ := h
  have e1 := r.length
  refine ⟨.ref x :: vs'.take k, vs'.drop k, by rw [List.cons_append, List.take_append_drop], by rw [List.length_cons, List.length_take]; omega, by rw [List.length_drop, e1, ← List.length_drop]; exact hz, fun p hp => ?_⟩
  obtain ⟨p1, p2⟩ := B.lnone hp
  have f := fut_new W (o := .tup (vs'.drop k)) p1
  have nx : x ≠ p := fun z => by rw [z, p1] at hx; cases hx
  have sn : ∀ rw, Step rw W H1 W (upd H1 p (.tup (vs'.drop k))) := fun rw => step_new rw W p1
  have snd : ∀ rw, Step rw W (hDel H1 x) W (hDel (upd H1 p (.tup (vs'.drop k))) x) := fun rw => by
    have e : hDel (upd H1 p (.tup (vs'.drop k))) x = upd (hDel H1 x) p (.tup (vs'.drop k)) := by
      funext a
      unfold hDel upd
      dsimp only
      by_cases z : a = x
      · rw [if_pos z, if_pos z, if_neg (fun y => nx (z.symm.trans y))]
      · rw [if_neg z, if_neg z]
    rw [e]
    exact step_new rw W (by rw [del_ne (Ne.symm nx)]; exact p1)
  have nn : ∀ {a}, hDel (upd H1 p (.tup (vs'.drop k))) x a = none → hDel H1 x a = none := fun {a} z => by
    unfold hDel at z ⊢
    split at z
    · rw [if_pos ‹_›]
    · rw [if_neg ‹_›]
      exact upd_none z
  refine ⟨W, S, upd H1 p (.tup (vs'.drop k)), x, dx, xs0, fs0, vs'.take k ++ [V.ref p], starD k ds, Q0, E0, rfl, lock_upd p2, B.later (sn false), upd_some p1 hx, rf.fut f, hF, ho, RepL.snoc ((r.take k).fut f) (.tup upd_same ((r.drop k).fut f)), ?_, q, fun fs S' xs dx' W' H2 q0 s n B' el hx' rf' nF no => ?_, fun C' fs S' od W' H2 q0 s n B' el ex => ?_⟩
  · unfold starD
    rw [List.length_append, List.length_take, List.length_singleton]
    omega
  · exact kr fs S' xs dx' W' H2 q0 ((snd rw).trans s) (fun a ha => (n a ha).elim .inl fun z => .inr (nn z)) B' el hx' rf' nF no
  · exact ke C' fs S' od W' H2 q0 ((snd rw).trans s) (fun a ha => (n a ha).elim .inl fun z => .inr (nn z)) B' el ex
theorem fnMS {x qual pv : Str} {st : Stmt} {f : Addr} {fd : FuncData} {N ps : List Str} {k n : Nat} {b : Sx} {rw : Bool} (F : Fun K x qual st f fd) (S : FnScope N (ps ++ [pv]) (defScope st)) (hn : ps.length = n) (hN : n + 1 ≤ N.length)
    (hbind : ∀ kV doc pm an cdv ct, ∀ us rest : List Value, us.length = ps.length → bindArgs (PySem.W.fnOf x qual (defArgs st) (defBody st) (defScope st) .none kV doc pm an cdv ct) ⟨us ++ rest, []⟩ = (newTuple rest >>= fun t => pure (ps.zip us ++ [(pv, t)])))
    (hb : ∀ (cdv : Value) (A : Around) (outer : List Env) (s : Shared) (H : Hp) (E : XK), Room k (A.deeper (envOfC qual (defScope st) s.heap.objs.size f cdv)) → PXB (cxOf (L2.CX P w) P w K mg base N qual (defScope st) f cdv A outer s H E) (defBody st) b) (np : Nat) :
    FnR P w K mg base (L2.CX P w) (k + 1) f (spM rw np (mStar n (mk rw N.length b))) := by
  obtain ⟨oc, od, kV, doc, pm, an, cdv, ct, osl, rfl, lk, hcd⟩ := F.ex
  have h := StX.fn_star (k := k) (ps := ps) (pv := pv) (N := N) (sp := spM rw (n + 1) (mk rw N.length b)) lk hcd S StX.cxUp (hbind kV doc pm an cdv ct) (fun A outer s H vs Q E hr h => body_M hN h (hb cdv A outer s H E hr) rfl (takes_of rfl rfl rfl rfl))
  refine h.imp fun vs H Q E z => ?_
  rw [hn]
  exact star_M z
theorem fnIS {x qual pv : Str} {st : Stmt} {f C : Addr} {fd : FuncData} {N ps : List Str} {k n : Nat} {b : Sx} {rw : Bool} (F : Fun K x qual st f fd) (S : FnScope N (ps ++ [pv]) (defScope st)) (hn : ps.length = n + 1) (hN : n + 1 + 1 ≤ N.length)
    (hbind : ∀ kV doc pm an cdv ct, ∀ us rest : List Value, us.length = ps.length → bindArgs (PySem.W.fnOf x qual (defArgs st) (defBody st) (defScope st) .none kV doc pm an cdv ct) ⟨us ++ rest, []⟩ = (newTuple rest >>= fun t => pure (ps.zip us ++ [(pv, t)])))
    (hb : ∀ (cdv : Value) (A : Around) (outer : List Env) (s : Shared) (H : Hp) (E : XK), Room k (A.deeper (envOfC qual (defScope st) s.heap.objs.size f cdv)) → PXB (cxOf (L2.CX P w) P w K mg base N qual (defScope st) f cdv A outer s H E) (defBody st) b) (np : Nat) :
    FnR P w K mg base (L2.CX P w) (k + 1) f (spI C rw np (iStar n (mkI C rw N.length b))) := by
  obtain ⟨oc, od, kV, doc, pm, an, cdv, ct, osl, rfl, lk, hcd⟩ := F.ex
  have h := StX.fn_star (k := k) (ps := ps) (pv := pv) (N := N) (sp := spI C rw (n + 1) (mkI C rw N.length b)) lk hcd S StX.cxUp (hbind kV doc pm an cdv ct) (fun A outer s H vs Q E hr h => init_body hN h (hb cdv A outer s H E hr) rfl (takes_of rfl rfl rfl rfl))
  refine h.imp fun vs H Q E z => ?_
  rw [hn]
  exact star_I z
end
end Q
/-! tuple(d), dict(pairs), dict(d) -/
namespace Q
open PySem L2 PySem.Spec PyProof.Rows
section
variable {prog : Program} {w : World} {A : Around} {E : Value → Shared → Prop} {s : Shared} {r d : Addr} {n : Nat} {P : Nat → Value → Prop} {OK : Heap → Prop}
theorem code_tuple_src {Q₁ : Value → Shared → Prop} (S : PySem.W.KdlSrc prog w "dict" r d n P OK) (hh : A.handled = none) (hok : OK s.heap) (hn : n ≤ sizeLine)
    (h : ∀ (h' : Heap) (tk : Nat) (acc : Array Value), (∀ b o, s.heap.get? b = some o → h'.get? b = some o) → ItemsOf P acc n → Q₁ (.ref h'.objs.size) { s with heap := h'.push { cls := .type "tuple", data := .seq acc }, toks := tk }) :
    codeAny (model prog w) A (.call (.builtin "tuple.__new__") ⟨[.type "tuple", .ref r], []⟩) (wants Q₁ E) s := by
  refine codeAny_of_tree ?_
  show wpAny _ A.in1 (checkBuiltinCall "tuple.__new__" ⟨[.type "tuple", .ref r], []⟩ >>= fun _ => again (.builtin "tuple.__new__" ⟨[.type "tuple", .ref r], []⟩)) _ _ s
  refine wpAny_bind (wpAny_of_eq (F.newCall_tuple_1 _) (wpAny_pure ⟨plainId_quiet F.plain_tuple_new _, codeAny_builtin F.entry_tuple_new ?_⟩))
  rw [Around.under_plainId F.plain_tuple_new _]
  have t1 := sub_tuple_self
  have t2 := init_tuple_lookup
  have t3 := madeHere_tuple
  have t4 : s.TypeIs (.ref r) "dict" := S.type _ hok
  have t5 : A.in1.handled = none := hh
  wp_walk using wpAny_typeOf t4, PySem.W.kdu_collect (A := A.in1) S t5 hok hn
  intro h' tk acc hk hacc
  show wpAny _ _ (Builtin.Tuple.tupleExact acc.toList.toArray >>= fun v => ret v) _ _ _
  rw [show acc.toList.toArray = acc by simp]
  unfold Builtin.Tuple.tupleExact
  exact wpAny_bind (wpAny_newObj_type (wpAny_pure (h h' tk acc hk hacc)) (by show acc.size ≤ sizeLine; rw [hacc.1]; exact hn))
theorem call_tuple_src {Q : Value → Shared → Prop} (S : PySem.W.KdlSrc prog w "dict" r d n P OK) (hh : A.handled = none) (hok : OK s.heap) (hn : n ≤ sizeLine)
    (h : ∀ (h' : Heap) (tk : Nat) (acc : Array Value), (∀ b o, s.heap.get? b = some o → h'.get? b = some o) → ItemsOf P acc n → Q (.ref h'.objs.size) { s with heap := h'.push { cls := .type "tuple", data := .seq acc }, toks := tk }) :
    wpAny (model prog w) A (call (.type "tuple") [.ref r]) Q E s := by
  refine callType_codes (Q₁ := fun o s₁ => s₁.TypeIs o "tuple" ∧ Q o s₁) F.called_tuple (F.typeCall_tuple_1 _) F.entry_object_init ?_ fun o s₁ z => ?_
  · exact code_tuple_src (A := A.in1) S hh hok hn fun h' tk acc hk hacc => ⟨⟨_, Heap.get?_push_size _ rfl, rfl⟩, h h' tk acc hk hacc⟩
  · exact ⟨z.1, F.args_object_init_2 o _, object_init_meets F.called_tuple.init.lookup F.called_tuple.made (by decide) prog w A.in1 _ s₁ ⟨z.1, rfl, z.2⟩⟩
end
def rTupD : List V → Hp → VK → Prop := fun xs H Q => ∃ p kvs, xs = [.ref p] ∧ Rd H p (.dK kvs) ∧ ∀ q, H q = none → Q (.ref q) (upd H q (.tup (kvs.map fun kv => kV kv.1)))
theorem call_tuple_dK {X : Cx} (hc : X.calm = true) : CallR X (.type "tuple") rTupD := by
  intro pins s σ H xs us Q I r h
  obtain ⟨p, kvs, rfl, hk, q⟩ := h
  obtain ⟨u, rfl, rx⟩ := vals1 r
  cases rx
  obtain ⟨z, lo, vs, rk, hd⟩ := dk_rd I.hok hk
  obtain ⟨ep, hat⟩ := hd.dictAt
  have hl : kvs.length = vs.length := Paired.length rk
  refine call_tuple_src (PySem.W.kdl_dict (knd := mixKind X.prog X.w) (kvs := vs) (ep := ep) lo) (I.ok.hd hc) hat (by omega) fun h' tk acc hkeep hacc => ?_
  have I2 : L2.Inv X pins σ H { s with heap := h', toks := tk } := I.kept hkeep
  refine ⟨.ref h'.objs.size, upd H h'.objs.size (.tup (kvs.map fun kv => kV kv.1)), I2.laid (t' := tk) (fun b o e => Heap.get?_push_of_some _ e) (Nat.le_refl _) ?_, rfl, q _ (I2.hok.fresh (Nat.le_refl _))⟩
  refine (show ObjOk X.prog X.w _ _ _ (.tup (kvs.map fun kv => kV kv.1)) from ⟨by rw [List.length_map]; exact z, acc.toList, ?_, ?_⟩)
  · have el : acc.toList.length = acc.size := by simp
    refine vals_of_at (by rw [List.length_map, el, hacc.1, hl]) fun j x w h1 h2 => ?_
    obtain ⟨k, y, hky, hi⟩ := hacc.2 j w (by rw [← Array.getElem?_toList]; exact h2)
    have e1 : (kvs.map (·.1))[j]? = some k := by
      rw [KV.keys rk, List.getElem?_map, hky]
      rfl
    have e2 : (kvs.map fun kv => kV kv.1)[j]? = some (kV k) := by
      rw [show (kvs.map fun kv => kV kv.1) = (kvs.map (·.1)).map kV by rw [List.map_map]; rfl, List.getElem?_map, e1]
      rfl
    rw [e2] at h1
    cases h1
    exact keyIs_rel hi
  · rw [Array.toArray_toList]
    exact PyProof.Rows.IsTup.new _ _
section
variable {X : Cx}
theorem RepK.keysR {φ F H} (φ' : List (Addr × Addr)) (F' : Addr → Prop) (H' : Hp) : ∀ {vs : List (Key × V)} {ds : List (Key × D)}, RepK φ F H vs ds → RepL φ' F' H' (vs.map fun kv => kV kv.1) (ds.map fun kv => kD kv.1)
  | _, _, .nil => .nil
  | _, _, .cons (k := k) h t => .cons (kD_rep _ _ _ k) (t.keysR φ' F' H')
def tupG : Gc := fun ds J => match ds with
  | [.lst xs] => J (.d (.tup xs))
  | [.tup xs] => J (.d (.tup xs))
  | [.dK kvs] => J (.d (.tup (kvs.map fun kv => kD kv.1)))
  | _ => False
theorem cTuple (K : PySem.W.Frag) (hc : X.calm = true) (h : X.K = K := by rfl) : CallR X (.type "tuple") (fun xs H Q => rTupleQ K xs H Q ∨ rTupD xs H Q) := by
  subst h
  exact call_tuple_of.or (call_tuple_dK hc)
theorem g_tup (K : PySem.W.Frag) : CallG (fun xs H Q => rTupleQ K xs H Q ∨ rTupD xs H Q) tupG := fun c W st σ H vs ds Q J P t g k => by
  unfold tupG at g
  split at g
  · exact .inl (g_tuple K c W st σ H vs _ Q J P t g k)
  · exact .inl (g_tuple K c W st σ H vs _ Q J P t g k)
  · obtain ⟨v, rfl, t1⟩ := tops_1 t
    cases t1 with
    | dK h1 r1 => exact .inr ⟨_, _, rfl, lock_rd h1, (k _ g).newT P (r1.keysR _ _ _)⟩
  · exact g.elim
/-! ### dict(..) -/
def pairsD : List D → Option (List (Key × D))
  | [] => some []
  | .tup [k, v] :: ds => match keyD k, pairsD ds with
    | some key, some r => some ((key, v) :: r)
    | _, _ => none
  | _ => none
def mergeD (kvs more : List (Key × D)) : List (Key × D) := more.foldl (fun acc kv => putD acc kv.1 kv.2) kvs
def dictG : Gc := fun ds J => match ds with
  | [.lst xs] => opt (pairsD xs) fun kvs => J (.dK (mergeD [] kvs))
  | [.dK kvs] => J (.dK kvs)
  | _ => False
theorem RepK.merge {φ F H} : ∀ {vs : List (Key × V)} {ds : List (Key × D)} {as : List (Key × V)} {bs : List (Key × D)}, RepK φ F H vs ds → RepK φ F H as bs → RepK φ F H (mergeK as vs) (mergeD bs ds)
  | _, _, _, _, .nil, h => h
  | _, _, _, _, .cons (vs := vs) (ds := ds) r t, h => t.merge (h.put r)
theorem pairs_rep {c : C0} {W : Wd} {st : Ps} {σ : L2.St} {H : Hp} (K : PySem.W.Frag) (P : Pre c W st σ H) : ∀ {ds : List D} {xs : List V} {kvs : List (Key × D)}, RepL W.φ W.F H xs ds → pairsD ds = some kvs → ∃ ps us, xs = ps.map V.ref ∧ Paired (fun p kv => SqT K (lockH W.L H) p [kV kv.1, kv.2]) ps us ∧ RepK W.φ W.F H us kvs
  | [], _, kvs, r, e => by
    cases r
    cases e
    exact ⟨[], [], rfl, .nil, .nil⟩
  | d :: ds, _, kvs, r, e => by
    cases r with
    | cons r1 r2 =>
      unfold pairsD at e
      split at e
      · rename_i e1; cases e1
      · rename_i k v ds' e1
        cases e1
        split at e
        · rename_i key rr ek er
          cases e
          obtain ⟨ps, us, rfl, pp, rk⟩ := pairs_rep K P r2 er
          cases r1 with
          | tup h1 h2 =>
            cases h2 with
            | cons a1 a2 =>
              cases a2 with
              | cons b1 b2 =>
                cases b2
                have := key_rep a1.top ek
                subst this
                exact ⟨_ :: ps, _ :: us, rfl, .cons (SqT.of (P.nol h1 rfl)) pp, .cons b1 rk⟩
        · cases e
      · cases e
def rDict (K : PySem.W.Frag) : List V → Hp → VK → Prop := fun xs H Q => (∃ (a : Addr) (ps : List Addr) (kvs : List (Key × V)), xs = [.ref a] ∧ SqL K H a (ps.map V.ref) ∧ Paired (fun p kv => SqT K H p [kV kv.1, kv.2]) ps kvs ∧ ∀ p, H p = none → Q (.ref p) (upd H p (.dK (mergeK [] kvs)))) ∨
  ∃ (a : Addr) (kvs : List (Key × V)), xs = [.ref a] ∧ Rd H a (.dK kvs) ∧ ∀ p, H p = none → Q (.ref p) (upd H p (.dK kvs))
theorem cDict (K : PySem.W.Frag) (hc : X.calm = true) (h : X.K = K := by rfl) : CallR X (.type "dict") (rDict K) := by
  subst h
  exact (call_dictP hc).or call_dictD
theorem g_dict (K : PySem.W.Frag) : CallG (rDict K) dictG := fun c W st σ H vs ds Q J P t g k => by
  unfold dictG at g
  split at g
  · obtain ⟨kvs, e, g⟩ := opt_ex g
    obtain ⟨v, rfl, t1⟩ := tops_1 t
    cases t1 with
    | lst h1 r1 =>
      obtain ⟨ps, us, rfl, pp, rk⟩ := pairs_rep K P r1 e
      exact .inl ⟨_, ps, us, rfl, SqL.of (P.nol h1 rfl), pp, (k _ g).new P rfl fun p hp => ⟨_, upd_same, (RepK.merge rk .nil).fut (fut_new W hp)⟩⟩
  · obtain ⟨v, rfl, t1⟩ := tops_1 t
    cases t1 with
    | dK h1 r1 => exact .inr ⟨_, _, rfl, lock_rd h1, (k _ g).new P rfl fun p hp => ⟨_, upd_same, r1.fut (fut_new W hp)⟩⟩
  · exact g.elim
end
end Q
namespace Q
open PySem L2
/-! ### the pen: the one object that draws change -/
/-- all but p is as it was -/
def Sb (p : Addr) (H H' : Hp) : Prop := ∀ a o, H a = some o → a ≠ p → H' a = some o
theorem Sb.trans {p : Addr} {H H1 H2 : Hp} (a : Sb p H H1) (b : Sb p H1 H2) : Sb p H H2 := fun c o e n => b c o (a c o e n) n
theorem Sb.of {p : Addr} {H H' : Hp} (h : Same H H') : Sb p H H' := fun a o e _ => h a o e
theorem sm_pen {H : Hp} {p : Addr} {u o : HO} (h : H p = some u) : Sb p H (upd H p o) := fun a v e n => by
  rw [upd_ne n]
  exact e
/-- the pen at p, its cells at c, at most n draws made -/
structure Pen (H : Hp) (p c : Addr) (n : Nat) : Prop where
  ex : ∃ (cells : List Int) (t l : Int), H p = some (.dK (penK c t l)) ∧ H c = some (.lst (cells.map V.int)) ∧ cells.length ≤ 63 ∧ 0 ≤ t ∧ t ≤ (n : Int) ∧ 0 ≤ l
abbrev kC : Key := Sum.inr ("cells" : Str)
abbrev kT : Key := Sum.inr ("turn" : Str)
abbrev kL : Key := Sum.inr ("left" : Str)
theorem k_lc : ¬ kC = kL := by decide +kernel
theorem k_lt : ¬ kT = kL := by decide +kernel
theorem k_tc : ¬ kC = kT := by decide +kernel
theorem k_tl : ¬ kL = kT := by decide +kernel
theorem pen_left (c : Addr) (t l : Int) : valV (penK c t l) kL = some (.int l) := by
  unfold penK
  rw [valV_neg (show ¬ (kC, V.ref c).1 = kL from k_lc), valV_neg (show ¬ (kT, V.int t).1 = kL from k_lt), valV_pos rfl]
theorem pen_turn (c : Addr) (t l : Int) : valV (penK c t l) kT = some (.int t) := by
  unfold penK
  rw [valV_neg (show ¬ (kC, V.ref c).1 = kT from k_tc), valV_pos rfl]
theorem pen_cells (c : Addr) (t l : Int) : valV (penK c t l) kC = some (.ref c) := by
  unfold penK
  rw [valV_pos rfl]
theorem pen_len (c : Addr) (t l : Int) : (penK c t l).length < sizeLine := sizeLine_lt (show 3 ≤ 100000 by decide)
theorem ite_next {b : Bool} {A B N : Prop} (hN : N) (hA : N → b = true → A) : if b = true then A else (if false = true then B else N) := by
  cases b
  · exact iteF (iteF hN)
  · exact iteT (hA hN rfl)
theorem put_left (c : Addr) (t l m : Int) : putK (penK c t l) kL (.int m) = penK c t m := by
  have e : ((penK c t l).any fun kv => decide (kv.1 = kL)) = true := by rw [valV_any, pen_left]; rfl
  unfold putK
  rw [if_pos e]
  show [if kC = kL then _ else _, if kT = kL then _ else _, if kL = kL then _ else _] = _
  rw [if_neg k_lc, if_neg k_lt, if_pos rfl]
theorem put_turn (c : Addr) (t l m : Int) : putK (penK c t l) kT (.int m) = penK c m l := by
  have e : ((penK c t l).any fun kv => decide (kv.1 = kT)) = true := by rw [valV_any, pen_turn]; rfl
  unfold putK
  rw [if_pos e]
  show [if kC = kT then _ else _, if kT = kT then _ else _, if kL = kT then _ else _] = _
  rw [if_neg k_tc, if_neg k_tl, if_pos rfl]
theorem dpAll_ints {K : PySem.W.Frag} {H : Hp} : ∀ xs : List Int, DpAll K H (xs.map V.int) (xs.map PyData.int)
  | [] => .nil
  | x :: xs => .cons (.int x) (dpAll_ints xs)
theorem canLay_ints : ∀ xs : List Int, PyData.canLayAll0 (xs.map PyData.int) = true
  | [] => rfl
  | x :: xs => by
    rw [List.map_cons]
    unfold PyData.canLayAll0
    rw [canLay_ints xs]
    rfl
theorem depth_ints : ∀ (xs : List Int), PyData.depthAll (xs.map PyData.int) = 0
  | [] => rfl
  | x :: xs => by
    rw [List.map_cons]
    unfold PyData.depthAll
    rw [depth_ints xs]
    rfl
theorem shaped_ints (xs : List Int) : SeqAt.shaped (.list (xs.map PyData.int)) = true := by
  unfold SeqAt.shaped PyData.canLay0 PyData.depth
  rw [canLay_ints, depth_ints]
  rfl
theorem primes_at (i : Int) (h0 : 0 ≤ i) (h1 : i < 5) : ∃ q : Int, atI [V.int 2147483629, V.int 2147483647, V.int 2147483587, V.int 2147483563, V.int 2147483579] i = some (.int q) ∧ 0 < q ∧ q < 4294967296 := by
  obtain rfl | rfl | rfl | rfl | rfl : i = 0 ∨ i = 1 ∨ i = 2 ∨ i = 3 ∨ i = 4 := by omega
  all_goals exact ⟨_, rfl, by decide, by decide⟩
theorem mod_small {x q : Int} (h0 : 0 < q) (h1 : q < 4294967296) : -(2 ^ 64) < x % q ∧ x % q < 2 ^ 64 := by
  have h2 : 0 ≤ x % q := Int.emod_nonneg _ (by omega)
  have h3 : x % q < q := Int.emod_lt_of_pos _ h0
  omega
theorem at_mod {xs : List Int} {t : Int} (ht : 0 ≤ t) (hl : 0 < xs.length) : ∃ x : Int, atI (xs.map V.int) (t % (xs.length : Int)) = some (.int x) := by
  have h0 : 0 ≤ t % (xs.length : Int) := Int.emod_nonneg _ (by omega)
  have h1 : t % (xs.length : Int) < (xs.length : Int) := Int.emod_lt_of_pos _ (by omega)
  obtain ⟨j, hj⟩ := Int.eq_ofNat_of_zero_le h0
  rw [hj] at h1 ⊢
  have hj2 : j < xs.length := by omega
  exact ⟨xs[j], atI_nat (by rw [List.getElem?_map, List.getElem?_eq_getElem hj2]; rfl)⟩
def spPen (K : PySem.W.Frag) : Sp := fun vs H Q _ => ∃ (a : Addr) (ns : List Int), vs = [.ref a] ∧ SqL K H a (ns.map V.int) ∧ ns.length ≤ 63 ∧ ∀ p c H', H p = none → H c = none → p ≠ c → Same H H' → Pen H' p c 0 → Q (.ref p) H'
def spDraw : Sp := fun vs H Q _ => ∃ (p c : Addr) (n : Nat) (span : Int), vs = [.ref p, .int span] ∧ Pen H p c n ∧ n < 2 ^ 60 ∧ 0 < span ∧ span < 1000 ∧ ∀ d H', 0 ≤ d → d < span → Sb p H H' → Pen H' p c (n + 1) → Q (.int d) H'
/-- a list of the module -/
def KL (K : PySem.W.Frag) (a : Addr) (ns : List Int) : Prop := ∃ (o : Obj) (its : Array Value) (n : Nat), K.lookup a = some o ∧ o.cls = .type "list" ∧ o.dict = none ∧ o.data = .seq its n ∧ its.size ≤ sizeLine ∧ Vals (ns.map V.int) its.toList
/-- the script: a list, or one of the module's own -/
def ScrD (K : PySem.W.Frag) (d : D) (ns : List Int) : Prop := d = .scr ns ∨ ∃ a, d = .cls a ∧ KL K a ns
def m__law_pen (K : PySem.W.Frag) : MF := fun ds E S Q => match ds with
  | [d] => ∃ ns, ScrD K d ns ∧ ns.length ≤ 63 ∧ Q (.d (.cell S.length)) (S ++ [.pen 0])
  | _ => False
def m__law_draw : MF := fun ds E S Q => match ds with
  | [.cell i, .int span] => (match S[i]? with
    | some (.pen n) => n < 2 ^ 60 ∧ 0 < span ∧ span < 1000 ∧ ∀ d : Int, 0 ≤ d → d < span → Q (.d (.int d)) (S.set i (.pen (n + 1)))
    | _ => False)
  | _ => False
/-- the heap without the locks -/
def unlock (L : List (Addr × Obj)) (H1 H' : Hp) : Hp := fun b => match L.lookup b with
  | some _ => H1 b
  | none => H' b
theorem unlock_lock {L : List (Addr × Obj)} {H1 H' : Hp} (h : ∀ b o, L.lookup b = some o → lockH L H1 b = H' b) : lockH L (unlock L H1 H') = H' := by
  funext b
  unfold lockH unlock
  cases e : L.lookup b with
  | none => rfl
  | some o =>
    have := h b o e
    unfold lockH at this
    rw [e] at this
    exact this
theorem Base.own_free {W : Wd} {S : List Cell} {H : Hp} (B : Base true W S H) {a : Addr} (h : W.own a) : W.L.lookup a = none := by
  cases e : W.L.lookup a with
  | none => rfl
  | some o => exact ((B.lF a o e).1.elim (B.ownF rfl a h) fun z => by cases z.1).elim
theorem Base.nol {rw : Bool} {W : Wd} {S : List Cell} {H : Hp} (B : Base rw W S H) {a : Addr} {u : HO} (h : H a = some u) (hd : dictO u = false) : W.L.lookup a = none := by
  cases e : W.L.lookup a with
  | none => rfl
  | some o =>
    obtain ⟨_, x, e1, e2⟩ := B.lF a o e
    rw [h] at e1
    cases e1
    rw [hd] at e2
    cases e2
theorem draw_sp {vs : List V} {H : Hp} {Q : VK} {E : XK} (h : spM true 2 m__law_draw vs H Q E) : spDraw vs H Q E := by
  obtain ⟨W, S, H1, ds, Q0, E0, rfl, B, r, hl, q, kr, ke⟩ := h
  unfold m__law_draw at q
  split at q
  · rename_i i span
    split at q
    · rename_i n hS
      obtain ⟨hn, h0, h1, q⟩ := q
      cases r with
      | cons r1 r2 =>
        cases r2 with
        | cons r3 r4 =>
          cases r4
          cases r3
          cases r1 with
          | cell e =>
            rename_i p rr
            have hll := B.len
            have hi := (List.getElem?_eq_some_iff.mp e).1
            have hw : W.owns[i]? = some (W.owns[i]'(by omega)) := List.getElem?_eq_getElem (by omega)
            have rep0 := B.cell i _ _ _ e hS hw
            obtain ⟨ew, c, cells, t, l, hF, a1, a2, a3, a4, a5, a6⟩ := rep0
            have op : W.own p := ⟨_, List.mem_of_getElem? hw, by rw [ew]; exact List.mem_cons_self⟩
            have lp := B.own_free op
            have lc := B.nol a2 rfl
            refine ⟨p, c, n, span, rfl, ⟨cells, t, l, (lock_at lp).trans a1, (lock_at lc).trans a2, a3, a4, a5, a6⟩, hn, h0, h1, fun d H' d0 d1 sb pn => ?_⟩
            obtain ⟨cells', t', l', b1, b2, b3, b4, b5, b6⟩ := pn.ex
            have lkd : ∀ b o, W.L.lookup b = some o → lockH W.L H1 b = H' b := fun b o eb => by
              have nb : b ≠ p := fun z => by rw [z, lp] at eb; cases eb
              obtain ⟨_, u, hu, _⟩ := B.lF b o eb
              have : lockH W.L H1 b = some (.frz o u) := by unfold lockH; rw [eb, hu]; rfl
              rw [this, sb b _ this nb]
            have kp : ∀ a o, H1 a = some o → a ≠ p → unlock W.L H1 H' a = some o := fun a o ha na => by
              unfold unlock
              cases eb : W.L.lookup a with
              | some _ => exact ha
              | none => exact sb a o ((lock_at eb).trans ha) na
            have u1 : unlock W.L H1 H' p = H' p := by unfold unlock; rw [lp]
            have u2 : unlock W.L H1 H' c = H' c := by unfold unlock; rw [lc]
            have ft : Fut W.φ W.F H1 W.φ W.F (unlock W.L H1 H') := ⟨fun _ _ z => z, fun _ z => z, fun a o hf ha => kp a o ha fun z => B.ownF rfl p op (by rw [← z]; exact hf), fun a xs ha => kp a _ ha fun z => by rw [z, a1] at ha; cases ha⟩
            have fin := kr (.d (.int d)) (S.set i (.pen (n + 1))) (.int d) W (unlock W.L H1 H') (q d d0 d1) ?_ (fun a z => .inl z) ?_ rfl (.int d)
            · rw [unlock_lock lkd] at fin
              exact fin
            · refine ⟨fun _ _ z => z, fun _ z => z, fun a o ha no => kp a o ha fun z => no rfl (by rw [z]; exact op), ft.tups, fun a ha => ?_, fun _ z => .inl z, ⟨[], rfl⟩, fun _ z => .inl z⟩
              by_cases z : a = p
              · rw [z, u1, b1]
                intro y
                cases y
              · cases eb : H1 a with
                | none => exact absurd eb ha
                | some o =>
                  rw [kp a o eb z]
                  intro y
                  cases y
            · refine ⟨fun a ha => ?_, by rw [List.length_set]; exact B.len, fun j x cl w g1 g2 g3 => ?_, B.apart, B.ownF, B.lN, fun a o ha => ?_⟩
              · obtain ⟨o, ho⟩ := B.fdom a ha
                exact ⟨o, ft.keep a o ha ho⟩
              · by_cases ji : j = i
                · subst ji
                  rw [e] at g1
                  cases g1
                  rw [hw] at g3
                  cases g3
                  rw [List.getElem?_set, if_pos rfl] at g2
                  split at g2
                  · cases g2
                    exact ⟨ew, c, cells', t', l', hF, by rw [u1]; exact b1, by rw [u2]; exact b2, b3, b4, b5, b6⟩
                  · cases g2
                · rw [List.getElem?_set_ne (Ne.symm ji)] at g2
                  have rep := B.cell j x cl w g1 g2 g3
                  refine rep.fut ft fun y hy => ?_
                  obtain ⟨o, ho, _⟩ := rep.there y hy
                  rw [ho]
                  refine kp y o ho fun z => ji (B.apart j i w _ y g3 hw hy ?_)
                  rw [ew, z]
                  exact List.mem_cons_self
              · obtain ⟨k1, u, k2, k3⟩ := B.lF a o ha
                exact ⟨k1, u, kp a u k2 (fun z => by rw [z, lp] at ha; cases ha), k3⟩
    · exact q.elim
  · exact q.elim
def Wd.cell (W : Wd) (p c : Addr) : Wd := { W with φ := W.φ ++ [(p, p)], owns := W.owns ++ [[p]], F := fun a => W.F a ∨ a = c }
theorem snoc_get {α : Type} {xs : List α} {x y : α} {n : Nat} (h : (xs ++ [x])[n]? = some y) : xs[n]? = some y ∨ (n = xs.length ∧ y = x) := by
  rw [List.getElem?_append] at h
  split at h
  · exact .inl h
  · rename_i hn
    have : n - xs.length = 0 := by
      cases e : n - xs.length with
      | zero => rfl
      | succ k => rw [e] at h; simp at h
    rw [this] at h
    simp at h
    exact .inr ⟨by omega, h.symm⟩
theorem pen_sp {K : PySem.W.Frag} {vs : List V} {H : Hp} {Q : VK} {E : XK} (h : spM true 1 (m__law_pen K) vs H Q E) : spPen K vs H Q E := by
  obtain ⟨W, S, H1, ds, Q0, E0, rfl, B, r, hl, q, kr, ke⟩ := h
  unfold m__law_pen at q
  split at q
  · rename_i d
    obtain ⟨ns, sd, q⟩ := q
    cases r with
    | cons r1 r2 =>
      rename_i v0 _
      cases r2
      have hsv : ∃ a, v0 = .ref a ∧ SqL K (lockH W.L H1) a (ns.map V.int) := by
        rcases sd with rfl | ⟨a, rfl, kl⟩
        · cases r1 with
          | scr hf hd =>
            rename_i a
            refine ⟨a, rfl, .inl ?_⟩
            rcases hd with hd | ⟨o, hd⟩
            · exact .inl ((lock_at (B.nol hd rfl)).trans hd)
            · exact .inr ⟨o, (lock_at (B.nol hd rfl)).trans hd⟩
        · cases r1
          exact ⟨a, rfl, .inr kl⟩
      obtain ⟨a, rfl, hsq⟩ := hsv
      · refine ⟨a, ns, rfl, hsq, q.1, fun p c H' hp hc npc sm pn => ?_⟩
        obtain ⟨p1, p2⟩ := B.lnone hp
        obtain ⟨c1, c2⟩ := B.lnone hc
        obtain ⟨cells', t', l', b1, b2, b3, b4, b5, b6⟩ := pn.ex
        have lkd : ∀ b o, W.L.lookup b = some o → lockH W.L H1 b = H' b := fun b o eb => by
          obtain ⟨_, u, hu, _⟩ := B.lF b o eb
          have : lockH W.L H1 b = some (.frz o u) := by unfold lockH; rw [eb, hu]; rfl
          rw [this, sm b _ this]
        have kp : ∀ a o, H1 a = some o → unlock W.L H1 H' a = some o := fun a o ha => by
          unfold unlock
          cases eb : W.L.lookup a with
          | some _ => exact ha
          | none => exact sm a o ((lock_at eb).trans ha)
        have u1 : unlock W.L H1 H' p = H' p := by unfold unlock; rw [p2]
        have u2 : unlock W.L H1 H' c = H' c := by unfold unlock; rw [c2]
        have nop : ¬ W.own p := fun z => by
          obtain ⟨o, e, _⟩ := B.own_there z
          rw [p1] at e; cases e
        have noc : ¬ W.own c := fun z => by
          obtain ⟨o, e, _⟩ := B.own_there z
          rw [c1] at e; cases e
        have nfp : ¬ W.F p := fun z => by
          obtain ⟨o, e⟩ := B.fdom _ z
          rw [p1] at e; cases e
        have ow : ∀ x, (W.cell p c).own x → W.own x ∨ x = p := fun x ⟨w, hw, hx⟩ => by
          rcases List.mem_append.mp hw with hw | hw
          · exact .inl ⟨w, hw, hx⟩
          · rw [List.mem_singleton.mp hw] at hx
            exact .inr (List.mem_singleton.mp hx)
        have ft : Fut W.φ W.F H1 (W.cell p c).φ (W.cell p c).F (unlock W.L H1 H') := ⟨fun n x z => by
          show (W.φ ++ [(p, p)])[n]? = some x
          rw [List.getElem?_append_left (List.getElem?_eq_some_iff.mp z).1]
          exact z, fun _ z => .inl z, fun a o _ h => kp a o h, fun a xs h => kp a _ h⟩
        have lens := B.len
        have fin := kr (.d (.cell S.length)) (S ++ [.pen 0]) (.ref p) (W.cell p c) (unlock W.L H1 H') q.2 ?_ (fun a z => z.elim .inl fun e => .inr (by rw [e]; exact c1)) ?_ rfl (.cell (r := p) ?_)
        · rw [unlock_lock lkd] at fin
          exact fin
        · refine ⟨ft.cells, ft.sub, fun a o h _ => kp a o h, fun a xs h => kp a _ h, fun a h => ?_, fun a z => (ow a z).elim .inl fun e => .inr ⟨rfl, by rw [e]; exact p1⟩, ⟨[], rfl⟩, fun a ⟨w, hw, hx⟩ => .inl ⟨w, List.mem_append_left _ hw, hx⟩⟩
          cases e : H1 a with
          | none => exact absurd e h
          | some o =>
            rw [kp a o e]
            intro y; cases y
        · refine ⟨fun a h => ?_, ?_, fun n x cl w g1 g2 g3 => ?_, fun m n w w' x g1 g2 g3 g4 => ?_, fun _ a ho hf => ?_, B.lN, fun a o h => ?_⟩
          · rcases h with h | rfl
            · obtain ⟨o, e⟩ := B.fdom a h
              exact ⟨o, kp a o e⟩
            · exact ⟨_, u2.trans b2⟩
          · show (W.φ ++ [(p, p)]).length = (S ++ [Cell.pen 0]).length ∧ (W.owns ++ [[p]]).length = (S ++ [Cell.pen 0]).length
            simp only [List.length_append, List.length_singleton]
            omega
          · rcases snoc_get g1 with k1 | ⟨k1, rfl⟩
            · rcases snoc_get g2 with k2 | ⟨k2, rfl⟩
              · rcases snoc_get g3 with k3 | ⟨k3, rfl⟩
                · have rep := B.cell n x cl w k1 k2 k3
                  refine rep.fut ft fun y hy => ?_
                  obtain ⟨o, e, _⟩ := rep.there y hy
                  rw [e, kp y o e]
                · have := (List.getElem?_eq_some_iff.mp k1).1
                  omega
              · have := (List.getElem?_eq_some_iff.mp k1).1
                omega
            · rcases snoc_get g2 with k2 | ⟨k2, rfl⟩
              · have := (List.getElem?_eq_some_iff.mp k2).1
                omega
              · rcases snoc_get g3 with k3 | ⟨k3, rfl⟩
                · have := (List.getElem?_eq_some_iff.mp k3).1
                  omega
                · exact ⟨rfl, c, cells', t', l', .inr rfl, u1.trans b1, u2.trans b2, b3, b4, b5, b6⟩
          · rcases snoc_get g1 with k1 | ⟨k1, rfl⟩
            · rcases snoc_get g2 with k2 | ⟨k2, rfl⟩
              · exact B.apart m n w w' x k1 k2 g3 g4
              · exact absurd ⟨w, List.mem_of_getElem? k1, by rw [← List.mem_singleton.mp g4]; exact g3⟩ nop
            · rcases snoc_get g2 with k2 | ⟨k2, rfl⟩
              · exact absurd ⟨w', List.mem_of_getElem? k2, by rw [← List.mem_singleton.mp g3]; exact g4⟩ nop
              · omega
          · rcases ow a ho with ho1 | rfl
            · rcases hf with hf | rfl
              · exact B.ownF rfl a ho1 hf
              · exact noc ho1
            · rcases hf with hf | hf
              · exact nfp hf
              · exact npc hf
          · obtain ⟨k1, u, k2, k3⟩ := B.lF a o h
            exact ⟨k1.elim (fun z => .inl (.inl z)) (fun z => by cases z.1), u, kp a u k2, k3⟩
        · show (W.φ ++ [(p, p)])[S.length]? = some (p, p)
          rw [← lens.1, List.getElem?_append_right (Nat.le_refl _), Nat.sub_self]
          rfl
  · exact q.elim
/-- from a def that lets no error out -/
theorem FnOk.calm {P : Program} {w : World} {K : PySem.W.Frag} {mg : Str → Option Value} {base : Heap} {k : Nat} {f : Addr} {fd : FuncData} {ps : List Str} {sp : Sp} (h : FnOk P w K mg base CX0 k f fd ps sp) : FnOk P w K mg base (L2.CX P w) k f fd ps sp := by
  refine ⟨h.len, fun A outer s H args us vs Q E hr e0 hb r q => codeAny_mono (h.run A outer s H args us vs Q E hr e0 hb r q) fun res s' z => ?_⟩
  cases res with
  | error e => exact (show False from z).elim
  | ok fl => cases fl <;> exact z
end Q
namespace Q
open PySem L2 PySem.Spec PyProof.Rows
/-! ### an instance with its dict of dicts becomes a database of the store -/
def Wd.dbc (W : Wd) (x r : Addr) (ts : List Addr) : Wd := { W with φ := W.φ ++ [(x, r)], owns := W.owns ++ [x :: r :: ts] }
theorem Pre.celld {c : C0} {W : Wd} {st : Ps} {σ : L2.St} {H : Hp} (P : Pre c W st σ H) (hrw : c.rw = true) {x r C dx : Addr} {vs : V} {kvs : List (Key × V)} {rows : List (Str × List (List Key))} {ts : List Addr} {sch : D}
    (hx : H x = some (.ins C dx [("own_schema", vs), ("own_rows", .ref r)])) (hv : Rp W H vs sch) (hr : H r = some (.dK kvs)) (ht : TabsAt H kvs rows ts) (nd : (x :: r :: ts).Nodup) (nn : (rows.map (·.1)).Nodup)
    (free : ∀ a ∈ x :: r :: ts, ¬ W.F a ∧ ¬ W.own a ∧ c.H0 a = none ∧ (∀ i, ¬ slotOwns st.ρ σ i a) ∧ ¬ c.R a) :
    Pre c (W.dbc x r ts) { st with S := st.S ++ [.db x C sch rows] } σ H ∧ Fut W.φ W.F H (W.dbc x r ts).φ (W.dbc x r ts).F H ∧ (W.dbc x r ts).φ[st.S.length]? = some (x, r) := by
  have lens := P.base.len
  have ow : ∀ y, (W.dbc x r ts).own y → W.own y ∨ y ∈ x :: r :: ts := fun y ⟨w, hw, hy⟩ => by
    rcases List.mem_append.mp hw with hw | hw
    · exact .inl ⟨w, hw, hy⟩
    · rw [List.mem_singleton.mp hw] at hy
      exact .inr hy
  have ft : Fut W.φ W.F H (W.dbc x r ts).φ (W.dbc x r ts).F H := ⟨fun n y z => by
    show (W.φ ++ [(x, r)])[n]? = some y
    rw [List.getElem?_append_left (List.getElem?_eq_some_iff.mp z).1]
    exact z, fun _ z => z, fun _ _ _ z => z, fun _ _ z => z⟩
  have at_ : (W.dbc x r ts).φ[st.S.length]? = some (x, r) := by
    show (W.φ ++ [(x, r)])[st.S.length]? = some (x, r)
    rw [← lens.1, List.getElem?_append_right (Nat.le_refl _), Nat.sub_self]
    rfl
  have s := P.step
  refine ⟨⟨P.hrw, ⟨fun n y z => ft.cells n y (s.cells n y z), s.sub, s.keep, s.tups, s.dom, fun a h => (ow a h).elim (s.ownNew a) fun z => .inr ⟨hrw, (free a z).2.2.1⟩, s.locks, fun a h => (s.ownOld a h).elim (fun ⟨w, hw, hy⟩ => .inl ⟨w, List.mem_append_left _ hw, hy⟩) .inr⟩, P.new, ⟨P.base.fdom, ?_, fun n y cl w g1 g2 g3 => ?_, fun m n w w' y g1 g2 g3 g4 => ?_, fun hr a ho hf => ?_, P.base.lN, fun a o h => ?_⟩, P.slen, fun i o h => (P.slot i o h).fut ft fun _ _ _ => rfl, fun i a h => ?_, P.sapart, fun a h => ?_, fun h => ?_, P.own0⟩, ft, at_⟩
  · show (W.φ ++ [(x, r)]).length = (st.S ++ [Cell.db x C sch rows]).length ∧ (W.owns ++ [x :: r :: ts]).length = (st.S ++ [Cell.db x C sch rows]).length
    simp only [List.length_append, List.length_singleton]
    omega
  · rcases snoc_get g1 with k1 | ⟨k1, rfl⟩
    · rcases snoc_get g2 with k2 | ⟨k2, rfl⟩
      · rcases snoc_get g3 with k3 | ⟨k3, rfl⟩
        · exact (P.base.cell n y cl w k1 k2 k3).fut ft fun _ _ => rfl
        · have := (List.getElem?_eq_some_iff.mp k1).1
          omega
      · have := (List.getElem?_eq_some_iff.mp k1).1
        omega
    · rcases snoc_get g2 with k2 | ⟨k2, rfl⟩
      · have := (List.getElem?_eq_some_iff.mp k2).1
        omega
      · rcases snoc_get g3 with k3 | ⟨k3, rfl⟩
        · have := (List.getElem?_eq_some_iff.mp k3).1
          omega
        · exact ⟨dx, vs, kvs, ts, rfl, nd, hx, hv.fut ft, hr, ht, nn, rfl⟩
  · rcases snoc_get g1 with k1 | ⟨k1, rfl⟩
    · rcases snoc_get g2 with k2 | ⟨k2, rfl⟩
      · exact P.base.apart m n w w' y k1 k2 g3 g4
      · exact absurd ⟨w, List.mem_of_getElem? k1, g3⟩ (free y g4).2.1
    · rcases snoc_get g2 with k2 | ⟨k2, rfl⟩
      · exact absurd ⟨w', List.mem_of_getElem? k2, g4⟩ (free y g3).2.1
      · omega
  · exact (ow a ho).elim (fun z => P.base.ownF hr a z hf) fun z => (free a z).1 hf
  · exact ⟨(P.base.lF a o h).1.elim .inl (fun z => by rw [hrw] at z; cases z.1), (P.base.lF a o h).2⟩
  · obtain ⟨h1, h2, h3⟩ := P.sown i a h
    exact ⟨h1, fun z => (ow a z).elim h2 fun y => (free a y).2.2.2.1 i h, h3⟩
  · obtain ⟨h1, h2, h3, h4⟩ := P.rsv a h
    exact ⟨h1, fun z => (ow a z).elim h2 fun y => (free a y).2.2.2.2 h, h3, h4⟩
  · have := (P.hvw h).1
    rw [hrw] at this
    cases this
/-! ### a constructor whose instance ends as a database of the store -/
abbrev MDb := List D → EF → List Cell → (Nat → List Cell → Prop) → Prop
def spDb (C : Addr) (np : Nat) (m : MDb) : Sp := fun vs H Q E => ∃ W S H1 x dx vs' ds Q0 E0, vs = .ref x :: vs' ∧ H = lockH W.L H1 ∧ Base true W S H1 ∧ H1 x = some (.ins C dx []) ∧ ¬ W.F x ∧ ¬ W.own x ∧ RepL W.φ W.F H1 vs' ds ∧ ds.length = np ∧ m ds E0 S Q0 ∧
  (∀ n S' r W' H2, Q0 n S' → Step true W (hDel H1 x) W' H2 → (∀ a, W'.F a → W.F a ∨ hDel H1 x a = none) → Base true W' S' H2 → W'.L = W.L → W'.φ[n]? = some (x, r) → Q .non (lockH W.L H2)) ∧
  (∀ C fs S' od W' H2, E0 C fs S' → Step true W (hDel H1 x) W' H2 → (∀ a, W'.F a → W.F a ∨ hDel H1 x a = none) → Base true W' S' H2 → W'.L = W.L → ExcAt W' H2 od fs → E (.ref C) od (lockH W.L H2))
def endDb (x : Addr) (Q0 : Nat → List Cell → Prop) (st : Ps) : Prop := match (st.ρ[0]? : Option O) with
  | some (.d (.cell n)) => (match st.S[n]? with
    | some (.db y _ _ _) => y = x ∧ Q0 n st.S
    | _ => False)
  | _ => False
def mkDb (C : Addr) (n : Nat) (b : Sx) : MDb := fun ds E0 S Q0 => ∀ x, b (fun C fs st => E0 C fs st.S) ⟨endDb x Q0, fun o st => (match o with | .d .non => True | _ => False) ∧ endDb x Q0 st, fun _ => False, fun _ => False⟩ ⟨.ins x C [] :: (ds.map O.d ++ List.replicate (n - 1 - ds.length) .un), S, true, false⟩
section
variable {P : Program} {w : World} {K : PySem.W.Frag} {mg : Str → Option Value} {base : Heap}
theorem db_body {X : Cx} {N : List Str} {body : List Stmt} {b : Sx} {C : Addr} {np : Nat} {vs : List V} {H : Hp} {Q : VK} {E : XK} (hN : np + 1 ≤ N.length) (h : spDb C np (mkDb C N.length b) vs H Q E) (hb : PXB X body b) (hX : X.H_0 = H) (tk : Takes X (fun cls d _ H => E cls d H)) :
    ∃ t, PSs X body t ∧ t { nx := fun _ H' => Q .non H', rt := Q } (L2.start N vs) H := by
  obtain ⟨W, S, H1, x, dx, vs', ds, Q0, E0, rfl, rfl, B, hx, hF, ho, r, hl, q, kr, ke⟩ := h
  have lx : W.L.lookup x = none := by
    cases e : W.L.lookup x with
    | none => rfl
    | some o => exact ((B.lF x o e).1.elim hF fun z => ho z.2).elim
  have BD := base_del B hF ho fun xs z => by rw [hx] at z; cases z
  have hX' : ∀ d o' u', X.H_0 d = some (.frz o' u') → lockH W.L (hDel H1 x) d = some (.frz o' u') := fun d o' u' e => by
    rw [hX] at e
    by_cases z : d = x
    · rw [z, lock_at lx, hx] at e
      cases e
    · unfold lockH at e ⊢
      rw [del_ne z]
      exact e
  refine ⟨_, pssUnl (hb ⟨W, hDel H1 x, true, fun C fs st => E0 C fs st.S, fun _ => False⟩ ?_), ?_⟩
  · refine Takes.imp (takesUnl tk) ?_
    rintro cls od σ H ⟨W', st', H2, C, fs, rfl, P', rfl, ex, e0⟩
    obtain ⟨un, s1, B1⟩ := P'.exit (X := X) BD hX'
    exact ⟨_, un, ke C fs st'.S od _ H2 e0 s1 P'.new B1 rfl ex⟩
  · have fin : ∀ {st' : Ps} {W' : Wd} {σ' : L2.St} {H2 : Hp}, endDb x Q0 st' → Pre ⟨W, hDel H1 x, true, fun C fs st => E0 C fs st.S, fun _ => False⟩ W' st' σ' H2 → ∃ H', Unl X (lockH W'.L H2) H' ∧ Q .non H' := fun {st' W' σ' H2} q' P' => by
      unfold endDb at q'
      split at q'
      · rename_i n hs
        split at q'
        · rename_i y C' sch rows hS
          obtain ⟨rfl, q'⟩ := q'
          obtain ⟨un, s1, B1⟩ := P'.exit (X := X) BD hX'
          obtain ⟨v, e1, e2⟩ := P'.slot 0 _ hs
          cases e2 with
          | cell e3 =>
            obtain ⟨_, _, _, _, _, _, _, _, _, _, _, _, _, _, rfl⟩ := P'.db e3 hS
            exact ⟨_, un, kr n _ _ _ H2 q' s1 P'.new B1 rfl e3⟩
        · exact q'.elim
      · exact q'.elim
    refine ⟨W, _, H1, ⟨endDb x Q0, fun o st => (match o with | .d .non => True | _ => False) ∧ endDb x Q0 st, fun _ => False, fun _ => False⟩, rfl, preI B hx .nil hF ho r (by omega), ⟨fun st' W' σ' H2 q' P' _ => fin q' P', fun o st' W' σ' H2 v q' P' _ ov => ?_, fun st' W' σ' H2 q' P' _ => q'.elim, fun st' W' σ' H2 q' P' _ => q'.elim⟩, q x⟩
    obtain ⟨q1, q2⟩ := q'
    split at q1
    · have ov' : Rp W' H2 v .non := ov
      cases ov'
      exact fin q2 P'
    · exact q1.elim
theorem fnDb {x qual : Str} {st : Stmt} {f C : Addr} {fd : FuncData} {N ps : List Str} {k np : Nat} {b : Sx} (F : Fun K x qual st f fd) (S : FnScope N ps (defScope st)) (hp : ps.length = np + 1) (hN : np + 1 ≤ N.length)
    (hb : ∀ (cdv : Value) (A : Around) (outer : List Env) (s : Shared) (H : Hp) (E : XK), Room k (A.deeper (envOfC qual (defScope st) s.heap.objs.size f cdv)) → PXB (cxOf (L2.CX P w) P w K mg base N qual (defScope st) f cdv A outer s H E) (defBody st) b) :
    FnOk P w K mg base (L2.CX P w) (k + 1) f fd ps (spDb C np (mkDb C N.length b)) := by
  refine F.okX S (fun vs H Q E h => ?_) fun cdv A outer s H vs Q E hr h => db_body hN h (hb cdv A outer s H E hr) rfl (takes_of rfl rfl rfl rfl)
  obtain ⟨W, S', H1, x, dx, vs', ds, Q0, E0, rfl, _, _, _, _, _, r, hl, _⟩ := h
  rw [List.length_cons, r.length, hl, hp]
end
def xMkDb (C : Addr) (np : Nat) (m : MDb) (ga : Ax) : Ox := fun E st Q => ga E st fun rs st1 => st1.rw = true ∧ opt (frzs st1 rs) fun q => q.1.length = np ∧ m q.1 (fun C fs S' => E C fs { q.2 with S := S' }) q.2.S fun n S' => Q (.d (.cell n)) { q.2 with S := S' }
theorem po_MkDb {X : Cx} {ee : Expr} {es : List Expr} {C : Addr} {np : Nat} {m : MDb} {ga : Ax} (h : MakeSp X ee es C (spDb C np m)) (ha : PXA X es ga) : PO X ee (xMkDb C np m ga) := fun c l => peOf (h (wish c) l (ha c l)) fun σ H Q ⟨W, st, H1, Q0, hH, P, q, k⟩ =>
  ⟨W, st, H1, _, hH, P, q, fun rs st1 vs W1 H2 q1 s1 P1 rvs => fun x dx hx hdx hne => by
    obtain ⟨hrw, q1⟩ := q1
    obtain ⟨y, e, hn, q1⟩ := opt_ex q1
    obtain ⟨W2, s2, P2, r2, eL⟩ := frzs_ok P1 e rvs
    rw [← eL] at hx hdx ⊢
    obtain ⟨x1, x2⟩ := P2.lnone' hx
    obtain ⟨d1, d2⟩ := P2.lnone' hdx
    obtain ⟨sa, Pa, a1, a2, a3, a4, a5⟩ := P2.fresh (o := .own x) d1
    have x1' : upd H2 dx (.own x) x = none := by rw [upd_ne (Ne.symm hne)]; exact x1
    obtain ⟨sb, Pb, b1, b2, b3, b4, b5⟩ := Pa.fresh (o := .ins C dx []) x1'
    have hc : c.rw = true := P1.hrw.symm.trans hrw
    have fb : Fut W2.φ W2.F H2 W2.φ W2.F (upd (upd H2 dx (.own x)) x (.ins C dx [])) := (P2.fut sa).trans (Pa.fut sb)
    have low : ∀ {a : Addr}, hDel (upd (upd H2 dx (.own x)) x (.ins C dx [])) x a = none → H2 a = none := fun {a} z => by
      by_cases nx : a = x
      · rw [nx]; exact x1
      · rw [del_ne nx, upd_ne nx] at z
        exact upd_none z
    have top : ∀ {a : Addr} {o : HO}, H2 a = some o → hDel (upd (upd H2 dx (.own x)) x (.ins C dx [])) x a = some o := fun {a o} e => by
      have nx : a ≠ x := ne_of_none e x1
      have nd : a ≠ dx := ne_of_none e d1
      rw [del_ne nx, upd_ne nx, upd_ne nd]
      exact e
    have sd : ∀ {W' H3}, Step true W2 (hDel (upd (upd H2 dx (.own x)) x (.ins C dx [])) x) W' H3 → Step c.rw W2 H2 W' H3 := fun {W' H3} s => by
      rw [hc]
      refine ⟨s.cells, s.sub, fun a o e n => s.keep a o (top e) n, fun a xs e => s.tups a xs (top e), fun a e => s.dom a ?_, fun a h => (s.ownNew a h).elim .inl fun z => .inr ⟨rfl, low z.2⟩, s.locks, s.ownOld⟩
      cases q : H2 a with
      | none => exact absurd q e
      | some o =>
        rw [top q]
        intro z; cases z
    have bt : Base true W2 y.2.S (upd (upd H2 dx (.own x)) x (.ins C dx [])) := by
      have := Pb.base
      rw [hc] at this
      exact this
    refine ⟨W2, y.2.S, upd (upd H2 dx (.own x)) x (.ins C dx []), x, dx, vs, y.1, _, _, rfl, ?_, bt, upd_same, b1, b2, r2.fut fb, hn, q1, fun n S' r W' H3 q0 s nw B el hx' => ⟨rfl, ?_⟩, fun C' fs S' od W' H3 q0 s nw B el ex => ?_⟩
    · rw [lock_upd d2, lock_upd x2]
    · have st3 := sd s
      have P3 := P2.call st3 (fun a h => (nw a h).elim .inl fun z => .inr (low z)) (by rw [hc]; exact B)
      have fin := k _ _ (V.ref x) _ _ q0 ((s1.trans s2).trans st3) P3 (show Rp W' H3 (.ref x) (.cell n) from .cell hx')
      rw [el] at fin
      exact fin
    · exact ⟨W', _, H3, C', fs, by rw [el], P2.call (sd s) (fun a h => (nw a h).elim .inl fun z => .inr (low z)) (by rw [hc]; exact B), rfl, ex, q0⟩⟩
end Q
namespace Q
open PySem L2 PySem.Spec PyProof.Rows
/-! ### self.own_rows = {name: {} for name in ..}: the database is made -/
def nmsD : List D → Option (List Str)
  | [] => some []
  | .str s :: ds => match nmsD ds with
    | some r => some (s :: r)
    | none => none
  | _ => none
theorem nmsD_get : ∀ {ds : List D} {ns : List Str}, nmsD ds = some ns → ds = ns.map D.str
  | [], ns, e => by cases e; rfl
  | d :: ds, ns, e => by
    unfold nmsD at e
    split at e
    · rename_i h; cases h
    · rename_i s ds' h
      cases h
      split at e
      · rename_i r hr
        cases e
        rw [nmsD_get hr]
        rfl
      · cases e
    · cases e
def noRows (ns : List Str) : List (Str × List (List Key)) := ns.map fun n => (n, [])
def sRows0 (K : PySem.W.Frag) (v : Nat) (fi : Ix) : Sx := fun E En st => fi E st fun ds st1 => opt (nmsD ds) fun ns => ns.Nodup ∧ ns.length < sizeLine ∧ st1.rw = true ∧ v < st1.ρ.length ∧ match ((wipeO st1.ρ [v])[0]? : Option O) with
  | some (.ins x C [("own_schema", sch)]) => FldOk K C "own_rows" ∧ En.nx { st1 with ρ := (wipeO st1.ρ [v]).set 0 (.d (.cell st1.S.length)), S := st1.S ++ [.db x C sch (noRows ns)] }
  | _ => False
def C0.bl (c : C0) (L : List Addr) : C0 := { c with E := E0k, R := fun b => c.R b ∨ b ∈ L }
theorem lk_bl {X : Cx} (c : C0) (L : List Addr) : Lk X (c.bl L) := Takes.imp takes0 fun cls d σ H ⟨W, st, H1, C, fs, _, _, _, _, z⟩ => z.elim
theorem TabsAt.snoc {H : Hp} {t : Addr} {n : Str} {ks : List (List Key)} (h : H t = some (.dT (ks.map fun k => (k, .bl true)))) : ∀ {kvs : List (Key × V)} {rows : List (Str × List (List Key))} {ts : List Addr}, TabsAt H kvs rows ts → TabsAt H (kvs ++ [(Sum.inr n, .ref t)]) (rows ++ [(n, ks)]) (ts ++ [t])
  | _, _, _, .nil => .cons h .nil
  | _, _, _, .cons a b => .cons a (b.snoc h)
def gL (c : C0) (tg : Tg) (is : List Nat) : TG := fun v σ H Q => ∃ L, tXG (c.bl L) tg is v σ H Q
theorem pg_L {X : Cx} {e : Expr} {tg : Tg} {is : List Nat} (c : C0) (h : PXG X e tg is) : PG X e (gL c tg is) := PG.orr fun L => h _ (lk_bl c L)
def tY : TT := fun _ H Q => Q true H
theorem set_same {σ : L2.St} {i : Nat} {x : Option V} (h : σ[i]? = some x) : σ.set i x = σ := by
  apply List.ext_getElem?
  intro j
  by_cases e : j = i
  · subst e
    have hl := (List.getElem?_eq_some_iff.mp h).1
    rw [List.getElem?_set, if_pos rfl, if_pos hl, h]
  · rw [List.getElem?_set_ne (Ne.symm e)]
theorem rows0_go {c : C0} {K : PySem.W.Frag} {v : Nat} {fi : Ix} {D : Ends} {σ : L2.St} {H : Hp} (hv : v ≠ 0) (h : tXS c (sRows0 K v fi) D σ H) : sFld K (tVar 0) (tDx false (tXI c fi) (gL c (gN v) [v]) tY (tVar v) tDNewT [v]) "own_rows" D σ H := by
  obtain ⟨W, st, H1, En, hH, P, ek, q⟩ := h
  refine ⟨W, st, H1, _, hH, P, q, fun ds st1 W1 H2 J q1 s1 P1 go => fun D0 hD => ?_⟩
  obtain ⟨ns, e0, nd, hz, hrw, hvl0, q1⟩ := opt_ex q1
  have eds := nmsD_get e0
  obtain ⟨d1, d2⟩ := P1.lnone' hD
  obtain ⟨sD, PD, f1, f2, f3, f4, f5⟩ := P1.fresh (o := .dK []) d1
  have PB : Pre (c.bl [D0]) W1 (st1.wp [v]) σ (upd H2 D0 (.dK [])) := (PD.res ⟨f1, f2, ⟨_, upd_same⟩, f4⟩).wp rfl rfl rfl rfl fun a z => z.elim .inl fun y => .inr (List.mem_singleton.mp y)
  refine ⟨fun i m Hh => m = ns.length - i ∧ i ≤ ns.length ∧ ∃ W2 H3 ts kvs, Hh = lockH W2.L H3 ∧ Pre (c.bl (D0 :: ts)) W2 (st1.wp [v]) σ H3 ∧ Step c.rw W1 H2 W2 H3 ∧ H3 D0 = some (.dK kvs) ∧ TabsAt H3 kvs (noRows (ns.take i)) ts ∧ (D0 :: ts).Nodup ∧ (∀ a ∈ D0 :: ts, H2 a = none) ∧ kvs.map (·.1) = (ns.take i).map Sum.inr,
    ⟨ns.length, by simp, Nat.zero_le _, W1, _, [], [], lock_upd d2, PB, sD, upd_same, .nil, by simp, fun a z => by rw [List.mem_singleton.mp z]; exact d1, rfl⟩, ?_⟩
  rintro i m Hh ⟨rfl, hi, W2, H3, ts, kvs, rfl, P2, s2, hD3, tb, ndt, fr, ek0⟩
  obtain ⟨g1, g2⟩ := go (c.bl (D0 :: ts)).R W2 _ σ H3 (P2.ctx rfl rfl rfl fun _ z => z) (P1.aft s2)
  have hlen : ds.length = ns.length := by rw [eds, List.length_map]
  by_cases hlt : i < ns.length
  · obtain ⟨g3, g4⟩ := g1 i (.str ns[i]) (by rw [eds, List.getElem?_map, List.getElem?_eq_getElem hlt]; rfl)
    refine .inr ⟨g3, fun H' => i + 1 ≤ ns.length ∧ ∃ W2 H3 ts kvs, H' = lockH W2.L H3 ∧ Pre (c.bl (D0 :: ts)) W2 (st1.wp [v]) σ H3 ∧ Step c.rw W1 H2 W2 H3 ∧ H3 D0 = some (.dK kvs) ∧ TabsAt H3 kvs (noRows (ns.take (i + 1))) ts ∧ (D0 :: ts).Nodup ∧ (∀ a ∈ D0 :: ts, H2 a = none) ∧ kvs.map (·.1) = (ns.take (i + 1)).map Sum.inr, fun H' z => ⟨ns.length - (i + 1), by omega, rfl, z⟩, fun x H' y => ?_⟩
    obtain ⟨H4, rfl, s4, P4, r4⟩ := YD.ok P2 (g4 x H' y)
    refine ⟨D0 :: ts, W2, (st1.wp [v]), H4, .str ns[i], fun st' => st' = (⟨(wipeO st1.ρ [v]).set v (.d (.str ns[i])), st1.S, st1.rw, st1.vw⟩ : Ps), rfl, P4.sig (wipe_in fun _ z => z), r4, rfl, fun st5 σ5 q5 P5 w5 => ?_⟩
    subst q5
    have e5 : wipe σ5 [v] = wipe σ [v] := (w5 [v] fun _ z => z).trans (wipe_in fun _ z => z)
    refine ⟨e5, ?_⟩
    unfold tY
    dsimp only
    rw [if_pos rfl]
    have hvl : v < (st1.wp [v]).ρ.length := by rw [show (st1.wp [v]).ρ.length = st1.ρ.length from wipeO_length _ _]; exact hvl0
    · have sl := P5.slot v (.d (.str ns[i])) (by rw [List.getElem?_set, if_pos rfl, if_pos hvl])
      obtain ⟨u, eu, ru⟩ := sl
      cases ru
      refine ⟨_, join_ref eu, fun p hp => ?_⟩
      obtain ⟨p1, p2⟩ := P5.lnone' hp
      have k4 : ∀ a o, H3 a = some o → (a ∈ D0 :: ts) → H4 a = some o := fun a o ha hm => s4.keep a o ha fun _ => (P2.rsv a (.inr hm)).2.1
      have hD4 := k4 D0 _ hD3 List.mem_cons_self
      have tb4 : TabsAt H4 kvs (noRows (ns.take i)) ts := tb.fut fun a ha => by
        obtain ⟨o, ho, _⟩ := tb.mem a ha
        rw [ho]
        exact k4 a o ho (List.mem_cons_of_mem _ ha)
      have npD : p ≠ D0 := fun z => by rw [z, hD4] at p1; cases p1
      have npt : p ∉ ts := fun z => by
        obtain ⟨o, ho, _⟩ := tb4.mem p z
        rw [p1] at ho; cases ho
      obtain ⟨s6, P6, z1, z2, z3, z4, z5⟩ := P5.fresh (o := .dT []) p1
      have ul : W2.L.lookup D0 = none := P5.lown (P5.rsv D0 (.inr List.mem_cons_self)).1 (P5.rsv D0 (.inr List.mem_cons_self)).2.1
      have hD6 : upd H4 p (.dT []) D0 = some (.dK kvs) := upd_some p1 hD4
      have hnk : ∀ kv ∈ kvs, ¬ kv.1 = Sum.inr ns[i] := fun kv hkv z => by
        have : kv.1 ∈ (ns.take i).map Sum.inr := by rw [← ek0]; exact List.mem_map_of_mem hkv
        rw [z] at this
        obtain ⟨n', hn', e'⟩ := List.mem_map.mp this
        cases e'
        obtain ⟨j, hj, ej⟩ := List.mem_take_iff_getElem.mp hn'
        have : j = i := (List.getElem?_inj (show j < ns.length by omega) nd).mp (by rw [List.getElem?_eq_getElem (by omega), List.getElem?_eq_getElem hlt, ej])
        omega
      have eput : putK kvs (Sum.inr ns[i]) (V.ref p) = kvs ++ [(Sum.inr ns[i], V.ref p)] := by
        refine putK_new _ ?_
        unfold valV
        rw [List.find?_eq_none.mpr fun kv hkv => by simpa using hnk kv hkv]
        rfl
      have hkl : kvs.length < sizeLine := by
        have : kvs.length = i := by
          rw [← List.length_map (f := (·.1)), ek0, List.length_map, List.length_take]
          omega
        omega
      obtain ⟨P7, f7⟩ := P6.mutR (u' := .dK (putK kvs (Sum.inr ns[i]) (V.ref p))) (.inr List.mem_cons_self) (show c.H0 D0 = none from f3) hD6 rfl
      refine ⟨_, DPut.k (k := Sum.inr ns[i]) (kvs := kvs) ?_ hkl, hlt, W2, upd (upd H4 p (.dT [])) D0 (.dK (putK kvs (Sum.inr ns[i]) (V.ref p))), ts ++ [p], kvs ++ [(Sum.inr ns[i], V.ref p)], ?_, ?_, ?_, ?_, ?_, ?_, ?_, ?_⟩
      · rw [lock_upd p2, lock_at ul]
        exact hD6
      · rw [lock_upd p2, lock_upd ul]
      · have P8 : Pre (c.bl (D0 :: ts)) W2 (st1.wp [v]) σ (upd (upd H4 p (.dT [])) D0 (.dK (putK kvs (Sum.inr ns[i]) (V.ref p)))) := by
          have w1 := P7.wp (c' := c.bl (D0 :: ts)) (vs := [v]) (σ' := σ) e5.symm rfl rfl rfl fun _ z => z
          have : (⟨(wipeO st1.ρ [v]).set v (.d (.str ns[i])), st1.S, st1.rw, st1.vw⟩ : Ps).wp [v] = st1.wp [v] := by
            show ({ st1 with ρ := _ } : Ps) = { st1 with ρ := _ }
            congr 1
            show (((st1.ρ.set v .un).set v (.d (.str ns[i]))).set v .un) = st1.ρ.set v .un
            rw [List.set_set, List.set_set]
          rw [this] at w1
          exact w1
        have zz : ∀ i, ¬ slotOwns (st1.wp [v]).ρ σ i p := fun j ⟨o, y1, y2, y3⟩ => by
          obtain ⟨u, hu, _⟩ := P2.sthere ⟨o, y1, y2, y3⟩
          have := s4.keep p u hu fun _ => (P2.sown j p ⟨o, y1, y2, y3⟩).2.1
          rw [p1] at this; cases this
        refine (P8.res (a := p) ⟨z1, z2, ⟨.dT [], by rw [upd_ne npD, upd_same]⟩, zz⟩).ctx rfl rfl rfl fun a z => ?_
        rcases z with z | z
        · exact .inl (.inl z)
        · rcases List.mem_cons.mp z with z | z
          · exact .inl (.inr (by rw [z]; exact List.mem_cons_self))
          · rcases List.mem_append.mp z with z | z
            · exact .inl (.inr (List.mem_cons_of_mem _ z))
            · exact .inr (List.mem_singleton.mp z)
      · exact ((s2.trans s4).trans s6).updN d1
      · rw [upd_same, eput]
      · have tk : noRows (ns.take (i + 1)) = noRows (ns.take i) ++ [(ns[i], [])] := by
          unfold noRows
          rw [List.take_succ_eq_append_getElem hlt, List.map_append]
          rfl
        rw [tk]
        refine TabsAt.snoc (ks := []) (by rw [upd_ne npD, upd_same]; rfl) (tb4.fut fun a ha => ?_)
        rw [upd_ne (fun z => by rw [z] at ha; exact (List.nodup_cons.mp ndt).1 ha), upd_ne (fun z => npt (by rw [← z]; exact ha))]
      · rw [← List.cons_append]
        refine List.nodup_append.mpr ⟨ndt, by simp, fun a ha b hb e => ?_⟩
        rw [List.mem_singleton.mp hb] at e
        rw [e] at ha
        rcases List.mem_cons.mp ha with z | z
        · exact npD z
        · exact npt z
      · intro a ha
        rw [← List.cons_append] at ha
        rcases List.mem_append.mp ha with z | z
        · exact fr a z
        · rw [List.mem_singleton.mp z]
          exact Classical.byContradiction fun y => (s2.trans s4).dom p y p1
      · rw [List.map_append, ek0, List.take_succ_eq_append_getElem hlt, List.map_append]
        rfl
  · have e : i = ns.length := by omega
    subst e
    rw [List.take_length] at tb ek0
    refine .inl ⟨g2 _ (by omega), ?_⟩
    split at q1
    · rename_i x C sch hs
      obtain ⟨a, ea, rfl, dx, xs, hx, rf⟩ := P2.slot 0 _ hs
      have ea := join_ref ea
      have so : slotOwns (st1.wp [v]).ρ σ 0 x := ⟨_, hs, rfl, ea⟩
      obtain ⟨k1, k2, k3⟩ := P2.sown 0 x so
      have lx := P2.lown k1 k2
      cases rf with
      | cons rs rt =>
        cases rt
        rename_i vs
        refine ⟨_, ea, x, C, dx, [("own_schema", vs)], rfl, (lock_at lx).trans hx, q1.1.cl, q1.1.no, (show 1 < 1000 by decide), ?_⟩
        rw [lock_upd lx]
        have nin : ∀ b ∈ D0 :: ts, b ≠ x := fun b hb z => (P2.rsv b (.inr hb)).2.2.2 0 (by rw [z]; exact so)
        have Pd := (P2.drop 0).res (a := x) ⟨k1, k2, ⟨_, hx⟩, fun j z => by
          obtain ⟨o, y1, y2, y3⟩ := z
          by_cases j0 : j = 0
          · subst j0
            rw [List.getElem?_set, if_pos rfl] at y1
            split at y1
            · cases y1; cases y2
            · cases y1
          · rw [List.getElem?_set_ne (Ne.symm j0)] at y1
            exact j0 (P2.sapart j 0 x ⟨o, y1, y2, y3⟩ so)⟩
        obtain ⟨Pm, fm⟩ := Pd.mutR (u' := .ins C dx [("own_schema", vs), ("own_rows", .ref D0)]) (.inr rfl) (show c.H0 x = none from k3) hx rfl
        have Pc : Pre c W2 _ σ (upd H3 x (.ins C dx [("own_schema", vs), ("own_rows", .ref D0)])) := Pm.ctx rfl rfl rfl fun _ z => .inl (.inl z)
        have rsv := Pm.rsv
        obtain ⟨Pf, ff, at_⟩ := Pc.celld (P1.hrw.symm.trans hrw) (x := x) (r := D0) (ts := ts) (rows := noRows ns) (kvs := kvs) (sch := sch) upd_same (rs.fut fm) (by rw [upd_ne (nin D0 List.mem_cons_self)]; exact hD3)
          (tb.fut fun b hb => by rw [upd_ne (nin b (List.mem_cons_of_mem _ hb))]) (List.nodup_cons.mpr ⟨fun z => nin x z rfl, ndt⟩) (by rw [show (noRows ns).map (·.1) = ns by unfold noRows; rw [List.map_map]; exact List.map_id ns]; exact nd)
          (fun b hb => by
            rcases List.mem_cons.mp hb with z | hb
            · subst z
              obtain ⟨y1, y2, y3, y4⟩ := rsv b (.inr rfl)
              exact ⟨y1, y2, k3, y4, fun z => (P2.rsv b (.inl z)).2.2.2 0 so⟩
            · obtain ⟨y1, y2, y3, y4⟩ := rsv b (.inl (.inr hb))
              refine ⟨y1, y2, Classical.byContradiction fun y => P1.step.dom b y (fr b hb), y4, fun z => ?_⟩
              obtain ⟨_, _, ⟨u, hu⟩, _⟩ := P1.rsv b z
              rw [fr b hb] at hu
              cases hu)
        have PF := Pf.set 0 (v := .ref x) (d := .cell st1.S.length) (.cell at_)
        rw [set_same ea] at PF
        refine ek.1 _ (W2.dbc x D0 ts) _ _ q1.2 ?_ ?_
        · have e2 : (wipeO st1.ρ [v]).set 0 (.d (.cell st1.S.length)) = ((wipeO st1.ρ [v]).set 0 .un).set 0 (.d (.cell st1.S.length)) := by rw [List.set_set]
          rw [e2]
          exact PF
        · exact ((P.aft s1).trans (P1.aft s2)).trans ⟨fm.trans ff, [], rfl⟩
    · exact q1.elim
theorem pxs_rows0 {X : Cx} {K : PySem.W.Frag} {v : Nat} {x : Str} {kx vx tge iter : Expr} {scope : Scope} {pos : Pos} {s : Stmt} {fi : Ix} (hv : v ≠ 0) (h : ∀ {t : TE}, PE X (.DictComp kx vx [⟨tge, iter, [], 0⟩] scope pos) t → PS X s (sFld K (tVar 0) t "own_rows")) (hu : X.A.units < cLine) (hc : X.calm = true) (hN : X.N.Nodup) (hi : PXI X tge iter fi) (ok : BlkOk X.N X.env.scope scope [(x, v)])
    (hg : ∀ (s : Shared) (H : Hp) (C : Addr) (cl : List (Str × Addr)) (fp : List Addr), PXG (X.blk s H scope (compEnvC scope cl C X.env) fp) tge (gN v) [v]) (hk : ∀ (s : Shared) (H : Hp) (C : Addr) (cl : List (Str × Addr)) (fp : List Addr), PE (X.blk s H scope (compEnvC scope cl C X.env) fp) kx (tVar v))
    (he : ∀ (s : Shared) (H : Hp) (C : Addr) (cl : List (Str × Addr)) (fp : List Addr), PE (X.blk s H scope (compEnvC scope cl C X.env) fp) vx tDNewT) (hs : ∀ x, foldedSetIterable iter X.env x = pure x := by intro _; rfl) : PXS X s (sRows0 K v fi) := fun c l =>
  psOf (h (pe_dx (t := false) (own := [(x, v)]) (wi := tXI c fi) (g := gL c (gN v) [v]) (tt := tY) (tk := tVar v) (tv := tDNewT) hu hc hN (hi c l) ok ⟨fun s H C cl fp => pg_L c (hg s H C cl fp), fun s H C cl fp => pts_nil, hk, he⟩ hs)) fun D σ H q => rows0_go hv q
end Q
namespace Q
open PySem L2 PySem.Spec PyProof.Rows
/-! ### the tables of a database are changed -/
theorem Pre.dbset {c : C0} {W : Wd} {st : Ps} {σ : L2.St} {H H' : Hp} (P : Pre c W st σ H) (hrw : c.rw = true) {n : Nat} {a r x C dx : Addr} {sch : D} {rows rows' : List (Str × List (List Key))} {vs : V} {kvs kvs' : List (Key × V)} {ts ts' : List Addr}
    (ea : W.φ[n]? = some (a, r)) (eS : st.S[n]? = some (.db x C sch rows)) (ew : W.owns[n]? = some (a :: r :: ts)) (nd : (a :: r :: ts).Nodup) (ha : H a = some (.ins C dx [("own_schema", vs), ("own_rows", .ref r)])) (hv : Rp W H vs sch) (hr : H r = some (.dK kvs)) (ht : TabsAt H kvs rows ts) (hx : x = a)
    (hk : ∀ b o, H b = some o → b ∉ r :: ts → H' b = some o) (hd : ∀ b, H b ≠ none → H' b ≠ none) (hr' : H' r = some (.dK kvs')) (ht' : TabsAt H' kvs' rows' ts') (nd' : (a :: r :: ts').Nodup) (nn' : (rows'.map (·.1)).Nodup)
    (new : ∀ b ∈ ts', b ∈ ts ∨ (¬ W.F b ∧ ¬ W.own b ∧ c.H0 b = none ∧ (∀ i, ¬ slotOwns st.ρ σ i b) ∧ ¬ c.R b)) :
    ∃ W', W'.L = W.L ∧ W'.φ = W.φ ∧ Pre c W' { st with S := st.S.set n (.db x C sch rows') } σ H' ∧ Aft W H W' H' := by
  have ownW : ∀ b ∈ a :: r :: ts, W.own b := fun b hb => ⟨_, List.mem_of_getElem? ew, hb⟩
  have ownR : ∀ {b}, b ∈ r :: ts → W.own b := fun {b} hb => ownW b (List.mem_cons_of_mem _ hb)
  have hln : n < W.owns.length := (List.getElem?_eq_some_iff.mp ew).1
  have ow : ∀ b, ({ W with owns := W.owns.set n (a :: r :: ts') } : Wd).own b → W.own b ∨ (¬ W.F b ∧ ¬ W.own b ∧ c.H0 b = none ∧ (∀ i, ¬ slotOwns st.ρ σ i b) ∧ ¬ c.R b) := fun b ⟨w, hw, hb⟩ => by
    rcases List.mem_or_eq_of_mem_set hw with hw | rfl
    · exact .inl ⟨w, hw, hb⟩
    · rcases List.mem_cons.mp hb with e | hb
      · rw [e]; exact .inl (ownW a List.mem_cons_self)
      · rcases List.mem_cons.mp hb with e | hb
        · rw [e]; exact .inl (ownR List.mem_cons_self)
        · rcases new b hb with z | z
          · exact .inl (ownR (List.mem_cons_of_mem _ z))
          · exact .inr z
  have mutR : ∀ {b}, b ∈ r :: ts → ∃ o, H b = some o ∧ mutO o = true := fun {b} hb => by
    rcases List.mem_cons.mp hb with e | hb
    · rw [e]; exact ⟨_, hr, rfl⟩
    · exact ht.mem b hb
  have kF : ∀ b o, W.F b → H b = some o → H' b = some o := fun b o hf h => hk b o h fun z => P.base.ownF hrw b (ownR z) hf
  have kt : ∀ b xs, H b = some (.tup xs) → H' b = some (.tup xs) := fun b xs h => hk b _ h fun z => by
    obtain ⟨o, e, m⟩ := mutR z
    rw [h] at e
    cases e
    cases m
  have ft : Fut W.φ W.F H W.φ W.F H' := ⟨fun _ _ z => z, fun _ z => z, kF, kt⟩
  have s := P.step
  refine ⟨{ W with owns := W.owns.set n (a :: r :: ts') }, rfl, rfl, ⟨P.hrw, ⟨s.cells, s.sub, fun b o h no => ?_, fun b xs h => kt b xs (s.tups b xs h), fun b h => hd b (s.dom b h), fun b h => (ow b h).elim (s.ownNew b) fun z => .inr ⟨hrw, z.2.2.1⟩, s.locks, fun b h => .inr hrw⟩, P.new, ⟨fun b h => ?_, ?_, fun m y cl w g1 g2 g3 => ?_, fun m m' w w' y g1 g2 g3 g4 => ?_, fun _ b ho hf => (ow b ho).elim (fun z => P.base.ownF hrw b z hf) fun z => z.1 hf, P.base.lN, fun b o h => ?_⟩, P.slen, fun i o h => ?_, fun i b h => ?_, P.sapart, fun b h => ?_, fun h => ?_, P.own0⟩, ft, [], rfl⟩
  · refine hk b o (s.keep b o h no) fun z => ?_
    rcases s.ownNew b (ownR z) with y | y
    · exact no hrw y
    · rw [y.2] at h; cases h
  · obtain ⟨o, e⟩ := P.base.fdom b h
    exact ⟨o, kF b o h e⟩
  · rw [List.length_set, List.length_set]
    exact P.base.len
  · by_cases mn : m = n
    · subst mn
      rw [ea] at g1
      cases g1
      rw [List.getElem?_set, if_pos rfl, if_pos (List.getElem?_eq_some_iff.mp eS).1] at g2
      rw [List.getElem?_set, if_pos rfl, if_pos hln] at g3
      cases g2
      cases g3
      exact ⟨dx, vs, kvs', ts', rfl, nd', hk a _ ha fun z => (List.nodup_cons.mp nd).1 z, hv.fut ft, hr', ht', nn', hx⟩
    · rw [List.getElem?_set_ne (Ne.symm mn)] at g2 g3
      have rep := P.base.cell m y cl w g1 g2 g3
      refine rep.fut ft fun z hz => ?_
      obtain ⟨o, e, _⟩ := rep.there z hz
      rw [e, hk z o e fun q => mn (P.base.apart m n w _ z g3 ew hz (List.mem_cons_of_mem _ q))]
  · have one : ∀ {m : Nat} {w : List Addr}, (W.owns.set n (a :: r :: ts'))[m]? = some w → (m = n ∧ w = a :: r :: ts') ∨ (m ≠ n ∧ W.owns[m]? = some w) := fun {m w} g => by
      by_cases mn : m = n
      · subst mn
        rw [List.getElem?_set, if_pos rfl, if_pos hln] at g
        cases g
        exact .inl ⟨rfl, rfl⟩
      · rw [List.getElem?_set_ne (Ne.symm mn)] at g
        exact .inr ⟨mn, g⟩
    have mix : ∀ {m : Nat} {w : List Addr}, m ≠ n → W.owns[m]? = some w → y ∈ w → y ∈ a :: r :: ts' → False := fun {m w} mn g h1 h2 => by
      have old : y ∈ a :: r :: ts → False := fun z => mn (P.base.apart m n w _ y g ew h1 z)
      rcases List.mem_cons.mp h2 with e | h2
      · exact old (by rw [e]; exact List.mem_cons_self)
      · rcases List.mem_cons.mp h2 with e | h2
        · exact old (by rw [e]; exact List.mem_cons_of_mem _ List.mem_cons_self)
        · rcases new y h2 with z | z
          · exact old (List.mem_cons_of_mem _ (List.mem_cons_of_mem _ z))
          · exact z.2.1 ⟨w, List.mem_of_getElem? g, h1⟩
    rcases one g1 with ⟨m1, w1⟩ | ⟨n1, h1⟩
    · rcases one g2 with ⟨m2, w2⟩ | ⟨n2, h2⟩
      · rw [m1, m2]
      · exact (mix n2 h2 g4 (by rw [← w1]; exact g3)).elim
    · rcases one g2 with ⟨m2, w2⟩ | ⟨n2, h2⟩
      · exact (mix n1 h1 g3 (by rw [← w2]; exact g4)).elim
      · exact P.base.apart m m' w w' y h1 h2 g3 g4
  · obtain ⟨k1, u, k2, k3⟩ := P.base.lF b o h
    rcases k1 with k1 | k1
    · exact ⟨.inl k1, u, kF b u k1 k2, k3⟩
    · rw [hrw] at k1; cases k1.1
  · refine (P.slot i o h).fut ft fun b e1 e2 => ?_
    have so : slotOwns st.ρ σ i b := ⟨o, h, e2, join_ref e1⟩
    obtain ⟨u, e, _⟩ := P.sthere so
    rw [e, hk b u e fun z => (P.sown i b so).2.1 (ownR z)]
  · obtain ⟨h1, h2, h3⟩ := P.sown i b h
    exact ⟨h1, fun z => (ow b z).elim h2 fun y => y.2.2.2.1 i h, h3⟩
  · obtain ⟨h1, h2, ⟨u, h3⟩, h4⟩ := P.rsv b h
    exact ⟨h1, fun z => (ow b z).elim h2 fun y => y.2.2.2.2 h, ⟨u, hk b u h3 fun z => h2 (ownR z)⟩, h4⟩
  · have := (P.hvw h).1
    rw [hrw] at this
    cases this
/-- the rows of one table otherwise -/
def setRows (rows : List (Str × List (List Key))) (nm : Str) (ks : List (List Key)) : List (Str × List (List Key)) := rows.map fun p => if p.1 = nm then (p.1, ks) else p
theorem setRows_names (rows : List (Str × List (List Key))) (nm : Str) (ks : List (List Key)) : (setRows rows nm ks).map (·.1) = rows.map (·.1) := by
  unfold setRows
  rw [List.map_map]
  apply List.map_congr_left
  intro p _
  show (if p.1 = nm then (p.1, ks) else p).1 = p.1
  split <;> rfl
theorem TabsAt.off {H : Hp} {nm : Str} {ks : List (List Key)} {t : Addr} : ∀ {kvs : List (Key × V)} {rows : List (Str × List (List Key))} {ts : List Addr}, TabsAt H kvs rows ts → nm ∉ rows.map (·.1) → (kvs.map fun kv => if kv.1 = Sum.inr nm then (kv.1, V.ref t) else kv) = kvs ∧ setRows rows nm ks = rows := by
  intro kvs rows ts h
  induction h with
  | nil => exact fun _ => ⟨rfl, rfl⟩
  | cons h' r' ih =>
    rename_i t1 n1 k1 kv1 rw1 ts1
    intro nd1
    rw [List.map_cons, List.mem_cons, not_or] at nd1
    obtain ⟨i1, i2⟩ := ih nd1.2
    refine ⟨?_, ?_⟩
    · rw [List.map_cons, i1]
      congr 1
      show (if (Sum.inr n1 : Key) = Sum.inr nm then _ else _) = _
      rw [if_neg (fun z => nd1.1 (Sum.inr.inj z).symm)]
    · unfold setRows at i2 ⊢
      rw [List.map_cons, i2]
      congr 1
      show (if n1 = nm then _ else _) = _
      rw [if_neg (fun z => nd1.1 z.symm)]
/-- a table's dict is exchanged -/
theorem TabsAt.swap {H H' : Hp} {nm : Str} {ks : List (List Key)} {t : Addr} (ht : H' t = some (.dT (ks.map fun k => (k, .bl true)))) {kvs : List (Key × V)} {rows : List (Str × List (List Key))} {ts : List Addr} (tb : TabsAt H kvs rows ts) : (∀ b ∈ ts, H' b = H b) → (rows.map (·.1)).Nodup → nm ∈ rows.map (·.1) → t ∉ ts → ts.Nodup →
    ∃ ts', TabsAt H' (kvs.map fun kv => if kv.1 = Sum.inr nm then (kv.1, .ref t) else kv) (setRows rows nm ks) ts' ∧ ts'.Nodup ∧ ∀ b ∈ ts', b ∈ ts ∨ b = t := by
  induction tb with
  | nil => exact fun _ _ hm _ _ => absurd hm List.not_mem_nil
  | cons h r ih =>
    rename_i t0 n0 ks0 kvs rows ts
    intro e nd hm hn ndt
    rw [List.map_cons, List.nodup_cons] at nd
    rw [List.nodup_cons] at ndt
    rw [List.mem_cons, not_or] at hn
    by_cases q : n0 = nm
    · subst q
      have e1 := r.off (ks := ks) (t := t) nd.1
      refine ⟨t :: ts, ?_, List.nodup_cons.mpr ⟨hn.2, ndt.2⟩, fun b hb => (List.mem_cons.mp hb).elim .inr fun z => .inl (List.mem_cons_of_mem _ z)⟩
      rw [List.map_cons, e1.1]
      unfold setRows at e1 ⊢
      rw [List.map_cons, e1.2]
      dsimp only
      rw [if_pos rfl, if_pos rfl]
      exact .cons ht (r.fut fun b hb => e b (List.mem_cons_of_mem _ hb))
    · have hm' : nm ∈ rows.map (·.1) := (List.mem_cons.mp hm).elim (fun z => absurd z.symm q) id
      obtain ⟨ts', h1, h2, h3⟩ := ih (fun b hb => e b (List.mem_cons_of_mem _ hb)) nd.2 hm' hn.2 ndt.2
      refine ⟨t0 :: ts', ?_, List.nodup_cons.mpr ⟨fun z => (h3 t0 z).elim ndt.1 fun y => hn.1 y.symm, h2⟩, fun b hb => (List.mem_cons.mp hb).elim (fun z => .inl (by rw [z]; exact List.mem_cons_self)) fun z => (h3 b z).elim (fun y => .inl (List.mem_cons_of_mem _ y)) .inr⟩
      rw [List.map_cons]
      unfold setRows at h1 ⊢
      rw [List.map_cons]
      dsimp only
      rw [if_neg (fun z => q (Sum.inr.inj z)), if_neg q]
      exact .cons ((e t0 List.mem_cons_self).trans h) h1
theorem TabsAt.keys {H : Hp} : ∀ {kvs : List (Key × V)} {rows : List (Str × List (List Key))} {ts : List Addr}, TabsAt H kvs rows ts → kvs.map (·.1) = rows.map fun p => Sum.inr p.1
  | _, _, _, .nil => rfl
  | _, _, _, .cons _ r => by rw [List.map_cons, List.map_cons, r.keys]
theorem TabsAt.len {H : Hp} : ∀ {kvs : List (Key × V)} {rows : List (Str × List (List Key))} {ts : List Addr}, TabsAt H kvs rows ts → kvs.length = rows.length
  | _, _, _, .nil => rfl
  | _, _, _, .cons _ r => congrArg (· + 1) r.len
def truesD : List (List Key × D) → Option (List (List Key))
  | [] => some []
  | (k, .bl true) :: r => match truesD r with
    | some ks => some (k :: ks)
    | none => none
  | _ => none
theorem trues_rep {φ F H} : ∀ {ds : List (List Key × D)} {vs : List (List Key × V)} {ks : List (List Key)}, RepT φ F H vs ds → truesD ds = some ks → vs = ks.map fun k => (k, V.bl true)
  | [], _, _, h, e => by cases h; cases e; rfl
  | (k, d) :: ds, _, ks, h, e => by
    cases h with
    | cons h1 h2 =>
      unfold truesD at e
      split at e
      · rename_i q; cases q
      · rename_i k' r q
        cases q
        split at e
        · rename_i ks' q2
          cases e
          cases h1
          rw [trues_rep h2 q2]
          rfl
        · cases e
      · cases e
/-- X[name] = {..}: the rows of a table -/
def tabSetK (K : En) (kvs : List (List Key × D)) (st : Ps) (r1 r2 : R) : Prop := opt (truesD kvs) fun ks => match look st r1, look st r2 with
  | some (.rows n), some (.str nm) => st.rw = true ∧ (match st.S[n]? with
    | some (.db x C sch rows) => nm ∈ rows.map (·.1) ∧ rows.length < sizeLine ∧ K.nx { st with S := st.S.set n (.db x C sch (setRows rows nm ks)) }
    | _ => False)
  | _, _ => False
def sTabSet (fr fk : Ex) (g : Ox) : Sx := fun E K st => g E st fun o st1 => match o with
  | .dT kvs => fr E st1 fun r1 st2 => fk E st2 fun r2 st3 => tabSetK K kvs st3 r1 r2
  | _ => False
theorem pxs_tabSet {X : Cx} {s : Stmt} {rx kx vx : Expr} {fr fk : Ex} {g : Ox} (h : ∀ {td ty tv : TE}, PE X rx td → PE X kx ty → PE X vx tv → PS X s (sDPut td ty tv)) (hr : PX X rx fr) (hk : PX X kx fk) (hg : PO X vx g) : PXS X s (sTabSet fr fk g) := fun c l => by
  refine psOf (h (PE.orr (t := fun a => tX (c.rs a) fr) fun a => hr _ (Lk.res l)) (PE.orr (t := fun a => tX (c.rs a) fk) fun a => hk _ (Lk.res l)) (hg c l)) ?_
  rintro D σ H ⟨W, st, H1, En, hH, P, ek, q⟩
  refine ⟨W, st, H1, _, hH, P, q, fun o st1 v W1 H2 q1 s1 P1 ov => ?_⟩
  split at q1
  · rename_i kvs
    obtain ⟨t, rfl, ⟨xs, ht, rt⟩, k2, k3, k4, k5, k6⟩ := OV.own rfl ov
    refine ⟨t, W1, st1, H2, _, rfl, P1.res ⟨k2, k3, ⟨_, ht⟩, k5⟩, q1, fun r1 st2 v1 W2 H3 q2 s2 P2 rv1 => ?_⟩
    refine ⟨t, W2, st2, H3, _, rfl, P2, q2, fun r2 st3 v2 W3 H4 q3 s3 P3 rv2 => ?_⟩
    obtain ⟨ks, e1, q3⟩ := opt_ex q3
    split at q3
    · rename_i n nm l1 l2
      obtain ⟨hrw, q3⟩ := q3
      split at q3
      · rename_i x C sch rows hS
        obtain ⟨hm, hz, q3⟩ := q3
        have t1 := P3.top (rv1.step P2 s3) l1
        have t2 := P3.top rv2 l2
        cases t2
        cases t1 with
        | rows ea =>
          rename_i a r
          obtain ⟨w, dx, vs, kv0, ts, ew, rfl, nd, ha, hv, hr0, htb, nn, hown, hx⟩ := P3.db ea hS
          obtain ⟨y1, y2, ⟨u, hu⟩, y4⟩ := P3.rsv t (.inr rfl)
          have ht4 : H4 t = some (.dT xs) := s3.keep t _ (s2.keep t _ ht fun _ => k3) fun _ => (P2.rsv t (.inr rfl)).2.1
          have ex : xs = ks.map fun k => (k, V.bl true) := trues_rep rt e1
          subst ex
          have hc : c.rw = true := P3.hrw.symm.trans hrw
          have lr : W3.L.lookup r = none := by
            cases q : W3.L.lookup r with
            | none => rfl
            | some o => exact ((P3.base.lF r o q).1.elim (P3.base.ownF hc r (hown r (List.mem_cons_of_mem _ List.mem_cons_self))) fun z => by rw [show (c.rs t).rw = true from hc] at z; cases z.1).elim
          have nt : ∀ b ∈ a :: r :: ts, b ≠ t := fun b hb z => y2 (by rw [← z]; exact hown b hb)
          have ndr : (r :: ts).Nodup := (List.nodup_cons.mp nd).2
          have nda := (List.nodup_cons.mp nd).1
          have hk' : ∀ b ∈ ts, (upd H4 r (.dK (putK kv0 (Sum.inr nm) (V.ref t)))) b = H4 b := fun b hb => upd_ne fun z => (List.nodup_cons.mp ndr).1 (by rw [← z]; exact hb)
          have htn : (upd H4 r (.dK (putK kv0 (Sum.inr nm) (V.ref t)))) t = some (.dT (ks.map fun k => (k, .bl true))) := by rw [upd_ne fun z => nt r (List.mem_cons_of_mem _ List.mem_cons_self) z.symm]; exact ht4
          obtain ⟨ts', tb', nd2, sub⟩ := TabsAt.swap htn htb hk' nn hm (fun z => nt t (List.mem_cons_of_mem _ (List.mem_cons_of_mem _ z)) rfl) (List.nodup_cons.mp ndr).2
          have eput : putK kv0 (Sum.inr nm) (V.ref t) = kv0.map fun kv => if kv.1 = Sum.inr nm then (kv.1, .ref t) else kv := by
            unfold putK
            rw [if_pos]
            rw [List.any_eq_true]
            have : (Sum.inr nm : Key) ∈ kv0.map (·.1) := by
              rw [htb.keys]
              obtain ⟨p, hp, e⟩ := List.mem_map.mp hm
              exact List.mem_map.mpr ⟨p, hp, by rw [e]⟩
            obtain ⟨kv, hkv, e⟩ := List.mem_map.mp this
            exact ⟨kv, hkv, decide_eq_true e⟩
          have nd3 : (a :: r :: ts').Nodup := by
            refine List.nodup_cons.mpr ⟨fun z => ?_, List.nodup_cons.mpr ⟨fun z => ?_, nd2⟩⟩
            · rcases List.mem_cons.mp z with z | z
              · exact nda (by rw [z]; exact List.mem_cons_self)
              · rcases sub a z with y | y
                · exact nda (List.mem_cons_of_mem _ y)
                · exact nt a List.mem_cons_self y
            · rcases sub r z with y | y
              · exact (List.nodup_cons.mp ndr).1 y
              · exact nt r (List.mem_cons_of_mem _ List.mem_cons_self) y
          obtain ⟨W', eL, eφ, Pf, af⟩ := (P3.unres).dbset hc ea hS ew nd ha hv hr0 htb hx (H' := upd H4 r (.dK (putK kv0 (Sum.inr nm) (V.ref t)))) (fun b o hb hn => by rw [upd_ne fun z => hn (by rw [z]; exact List.mem_cons_self)]; exact hb) (fun b hb => upd_dom hb) upd_same (by rw [eput]; rw [eput] at tb'; exact tb') nd3 (by rw [setRows_names]; exact nn)
            (fun b hb => (sub b hb).elim .inl fun z => .inr (by rw [z]; exact ⟨y1, y2, k4, y4, k6⟩))
          refine ⟨r, _, rfl, DPut.k (k := Sum.inr nm) ((lock_at lr).trans hr0) (by rw [htb.len]; exact hz), ?_⟩
          rw [lock_upd lr, ← eL]
          exact ek.1 _ W' _ _ q3 Pf ((((P.aft s1).trans (P1.aft s2)).trans (P2.aft s3)).trans af)
      · exact q3.elim
    · exact q3.elim
  · exact q1.elim
end Q
namespace Q
open PySem L2 PySem.Spec PyProof.Rows
/-! ### o[k] = v by an own __setitem__ (no error leaves it) -/
section
variable {X : Cx}
def sSetS (C : Addr) (z : Bool × Nat × MF) (f1 f2 fv : Ex) : Sx := fun E K st => fv E st fun rv st0 => f1 E st0 fun r1 st1 => f2 E st1 fun r2 st2 => clsOf st2 r1 "__setitem__" = some C ∧ cA z st2 [r1, r2, rv] fun _ st3 => K.nx st3
theorem pxs_setS {a b v : Expr} {s : Stmt} {C : Addr} {z : Bool × Nat × MF} {f1 f2 fv : Ex} (h : ∀ {t1 t2 tv : TE}, PE X a t1 → PE X b t2 → PE X v tv → PS X s (tAsg tv (gSub t1 t2 (rSetOwn C (spM z.1 z.2.1 z.2.2) E0)))) (h1 : PX X a f1) (h2 : PX X b f2) (hv : PX X v fv) : PXS X s (sSetS C z f1 f2 fv) := fun c l =>
  psOf (h (h1 c l) (h2 c l) (hv c l)) fun D σ H ⟨W, st, H1, En, hH, P, ek, q⟩ =>
  ⟨W, st, H1, _, hH, P, q, fun rv st0 v0 W0 H0 q0 s0 P0 rv0 => ⟨W0, st0, H0, _, rfl, P0, q0, fun r1 st1 v1 W1 H2 q1 s1 P1 rv1 => ⟨W1, st1, H2, _, rfl, P1, q1, fun r2 st2 v2 W2 H3 q2 s2 P2 rv2 => by
    obtain ⟨p, dx, fs, rfl, hp, _⟩ := cls_at P2 (rv1.step P1 s2) q2.1
    exact ⟨p, rfl, ⟨dx, fs, hp⟩, cA_ok E0 P2 (.cons (rv1.step P1 s2) (.cons rv2 (.cons ((rv0.step P0 s1).step P1 s2) .nil))) q2.2 fun o st3 v3 W3 H4 q3 s3 P3 ov => ek.1 _ _ _ _ q3 P3 (((((P.aft s0).trans (P0.aft s1)).trans (P1.aft s2)).trans (P2.aft s3)))⟩⟩⟩⟩
theorem setS_ok {C f : Addr} {fd : FuncData} {ps : List Str} {n : Nat} {z : Bool × Nat × MF} {a b v : Expr} {pos tpos : Pos} (S : Spc X C "__setitem__" f) (nq : PySem.W.noSeq X.K C = true) (F : FnOk X.prog X.w X.K X.mg X.base (L2.CX X.prog X.w) n f fd ps (spM z.1 z.2.1 z.2.2)) (hr : Room n X.A) (hb : Binds X.K fd ps [])
    (hs : swapsWithSole [.Subscript a b tpos] v pos.line X.env = pure false := by rfl) (hw : swappedStores [.Subscript a b tpos] v X.env = pure none := by rfl) (h1 : (assignEach [.Subscript a b tpos] X.env).map (·.2) = [assign (.Subscript a b tpos) X.env] := by rfl)
    (ha : ∀ v, assign (.Subscript a b tpos) X.env v = (do
      let ov ← holding [v] (eval a X.env)
      let iv ← holding [v, ov] (eval b X.env)
      standAt tpos
      holding [v, ov, iv] (setItem ov iv v)
      release [v, ov, iv] []) := by intro _; rfl) :
    ∀ {t1 t2 tv : TE}, PE X a t1 → PE X b t2 → PE X v tv → PS X (.Assign [.Subscript a b tpos] v pos) (tAsg tv (gSub t1 t2 (rSetOwn C (spM z.1 z.2.1 z.2.2) E0))) := fun e1 e2 ev => ps_asg ev (pg_sub e1 e2 (set_own S nq F hr hb passL) ha) hs hw h1
end
end Q
namespace Q
open PySem L2 PySem.Spec PyProof.Rows
section
variable {X : Cx}
/-! ### if (a if c else b) -/
def tIfT (c a b : TT) : TT := fun σ H Q => c σ H fun d H1 => if d = true then a σ H1 Q else b σ H1 Q
theorem pt_ifExp {c a b : Expr} {pos : Pos} {tc ta tb : TT} (hc : PT X c tc) (ha : PT X a ta) (hb : PT X b tb) : PT X (.IfExp c a b pos) (tIfT tc ta tb) := ⟨fun pins s σ H Q I h => by
  refine isTrue_IfExp (thn (hc.run pins s σ H _ I h) fun d s1 ⟨H1, I1, q1⟩ => ?_)
  cases d with
  | true => exact ha.run pins s1 σ H1 Q I1 q1
  | false => exact hb.run pins s1 σ H1 Q I1 q1⟩
def xIfT (c a b : Tx) : Tx := fun E st Q => c E st fun d st1 => if d = true then a E st1 Q else b E st1 Q
theorem pxt_if {c a b : Expr} {pos : Pos} {fc fa fb : Tx} (hc : PXT X c fc) (ha : PXT X a fa) (hb : PXT X b fb) : PXT X (.IfExp c a b pos) (xIfT fc fa fb) := fun cc l => ptOf (pt_ifExp (hc cc l) (ha cc l) (hb cc l)) fun σ H Q ⟨W, st, H1, Q0, hH, P, q, k⟩ =>
  ⟨W, st, H1, _, hH, P, q, fun d st1 W1 H2 q1 s1 P1 => by
    cases d with
    | true => exact iteT ⟨W1, st1, H2, _, rfl, P1, q1, fun b st2 W2 H3 q2 s2 P2 => k _ _ _ _ q2 (s1.trans s2) P2⟩
    | false => exact iteF ⟨W1, st1, H2, _, rfl, P1, q1, fun b st2 W2 H3 q2 s2 P2 => k _ _ _ _ q2 (s1.trans s2) P2⟩⟩
/-! ### in, as a test -/
theorem inS_go {mt : MT} {n : Bool} {f1 f2 : Ex} {c : C0} {σ : L2.St} {H : Hp} {Q : VK} (h : tO c (xInS mt n f1 f2) σ H Q) : tOp (rInMT mt n) (tX c f1) (tX c f2) σ H Q := by
  obtain ⟨W, st, H1, Q0, hH, P, q, k⟩ := h
  refine ⟨W, st, H1, _, hH, P, q, fun r1 st1 v1 W1 H2 q1 s1 P1 rv1 => ⟨W1, st1, H2, _, rfl, P1, q1, fun r2 st2 v2 W2 H3 q2 s2 P2 rv2 => ?_⟩⟩
  obtain ⟨C, e1, q2⟩ := opt_ex q2
  obtain ⟨z, e2, q2⟩ := opt_ex q2
  obtain ⟨p, dx, fs, rfl, hp, _⟩ := cls_at P2 rv2 e1
  refine ⟨⟨(C, z), e2⟩, ?_⟩
  have go : ∀ (Q' : VK), (∀ b H, Q (.bl (if n then !b else b)) H → Q' (.bl b) H) → spM z.1 z.2.1 z.2.2 [.ref p, v1] (lockH W2.L H3) Q' E0 := fun Q' hQ => by
    refine cA_ok E0 P2 (.cons rv2 (.cons (rv1.step P1 s2) .nil)) q2 fun o st3 v W3 H4 q3 s3 P3 ov => ?_
    obtain ⟨b, e3, q3⟩ := opt_ex q3
    have := ov_bl ov e3
    subst this
    exact hQ b _ (k _ _ _ _ _ q3 ((s1.trans s2).trans s3) P3 (.bl _ : Rp W3 H4 _ (.bl _)))
  cases n with
  | true => exact ⟨p, rfl, ⟨dx, fs, hp⟩, go _ fun b H hq => ⟨b, rfl, hq⟩⟩
  | false => exact ⟨p, rfl, ⟨dx, fs, hp⟩, go _ fun b H hq => ⟨b, rfl, hq⟩⟩
theorem pxt_inS {a b ee : Expr} {mt : MT} {n : Bool} {f1 f2 : Ex} (h : ∀ {t1 t2 : TE}, PE X a t1 → PE X b t2 → PT X ee (tTest (tOp (rInMT mt n) t1 t2))) (h1 : PX X a f1) (h2 : PX X b f2) : PXT X ee (xTO (xInS mt n f1 f2)) := pxt_O h h1 h2 fun c σ H Q q => inS_go q
end
end Q
namespace Q
open PySem L2 PySem.Spec PyProof.Rows
/-! ### repr of a whole number -/
def rReprI : List V → Hp → VK → Prop := fun xs H Q => ∃ i, xs = [.int i] ∧ i.natAbs.log2 < 1920 ∧ Q (.str (toString i)) H
theorem call_repr1 {X : Cx} : CallR X (.builtin "repr") rReprI := SkE.call_repr_int
def reprG : Gc := fun ds J => match ds with
  | [.int i] => i.natAbs.log2 < 1920 ∧ J (.d (.str (toString i)))
  | _ => False
theorem g_repr : CallG rReprI reprG := fun c W st σ H vs ds Q J P t g k => by
  unfold reprG at g
  split at g
  · obtain ⟨v, rfl, t1⟩ := tops_1 t
    cases t1
    exact ⟨_, rfl, g.1, (k _ g.2).d P (.str _)⟩
  · exact g.elim
end Q
/-! the end of a law -/
namespace Q
open PySem L2 PySem.Spec PyProof.Rows
def spLaw (K : PySem.W.Frag) : Sp := fun vs H Q _ => ∃ (a : Addr) (ns : List Int), vs = [.ref a] ∧ SqL K H a (ns.map V.int) ∧ ns.length ≤ 63 ∧ ∀ H', Q (.bl true) H'
theorem base_none {H : Hp} {F : Addr → Prop} (h : ∀ a, F a → ∃ o, H a = some o) : Base true ⟨[], [], F, []⟩ [] H :=
  ⟨h, ⟨rfl, rfl⟩, fun n a x w e => by simp at e, fun m n w w' x e => by simp at e, fun _ a ⟨w, hw, _⟩ => absurd hw List.not_mem_nil, List.nodup_nil, fun a o e => by simp at e⟩
theorem lock_nil (H : Hp) : lockH [] H = H := by
  funext a
  rfl
theorem law_sp {K : PySem.W.Frag} {m : MF} (hm : ∀ d ns, ScrD K d ns → ns.length ≤ 63 → m [d] (fun _ _ _ => False) [] fun o _ => o = .d (.bl true)) {vs : List V} {H : Hp} {Q : VK} {E : XK} (h : spLaw K vs H Q E) : spM true 1 m vs H Q E := by
  obtain ⟨a, ns, rfl, hs, hl, k⟩ := h
  have fin : ∀ (W : Wd), W.L = [] → ∀ (o : O) (S' : List Cell) (v : V) (W' : Wd) (H2 : Hp), o = O.d (.bl true) → Step true W H W' H2 → (∀ a, W'.F a → W.F a ∨ H a = none) → Base true W' S' H2 → W'.L = W.L → RO W' H H2 v o → Q v (lockH W.L H2) := by
    intro W _ o S' v W' H2 e _ _ _ _ r
    subst e
    have r' : Rp W' H2 v (.bl true) := r
    cases r'
    exact k _
  rcases hs with hs | hs
  · refine ⟨⟨[], [], fun b => b = a, []⟩, [], H, [.scr ns], _, _, (lock_nil H).symm, base_none fun b e => ?_, .cons (.scr rfl hs) .nil, rfl, hm _ ns (.inl rfl) hl, fin _ rfl, fun _ _ _ _ _ _ e => e.elim⟩
    subst e
    rcases hs with hs | ⟨o, hs⟩
    · exact ⟨_, hs⟩
    · exact ⟨_, hs⟩
  · exact ⟨⟨[], [], fun _ => False, []⟩, [], H, [.cls a], _, _, (lock_nil H).symm, base_none fun b e => e.elim, .cons (.cls a) .nil, rfl, hm _ ns (.inr ⟨a, rfl, hs⟩) hl, fin _ rfl, fun _ _ _ _ _ _ e => e.elim⟩
theorem walk {l : PySem.W.OpenLaw} {q : Program} {loose : List Str} {XP : (Str → Option Value) → Heap → Prop} {YP : World → Heap → Prop} {d : DefRec} {K : Params → PySem.W.Frag} (k : Nat) (hk : Room k callerA) (hn : l.most = some 63) (hdf : d.params.defaults = [])
    (hY : ∀ (w : World) (h : Heap), YP w h → (K w.params).In h)
    (F : ∀ (w : World) (mg : Str → Option Value) (fa : Addr) (h : Heap), (K w.params).In h → h.Ns mainGlobals mg → mg d.name = some (.ref fa) →
      ∃ fd : FuncData, (∀ (s : Shared) (u : Value), BindsTo s fd ⟨[u], []⟩ [("_law_script", u)]) ∧ ∀ base : Heap, (K w.params).In base → base.Ns mainGlobals mg → FnOk l.prog w (K w.params) mg base (L2.CX l.prog w) k fa fd ["_law_script"] (spLaw (K w.params))) :
    PySem.W.WalkO q loose XP YP l.row.toRowW d [] (fun f vs => PySem.call f vs) :=
  L2.walk_of (n := 63) (k := k) (x := "_law_script") (CX := fun w => L2.CX l.prog w) (sp := fun w => spLaw (K w.params)) hn (by decide) hdf hk hY F (fun _ _ a ns hl _ hS => ⟨a, ns, rfl, hS, hl, fun _ => rfl⟩) fun _ _ _ _ _ z => by
    obtain ⟨_, _, _, _, _, _, _, _, _, _, _, _, f⟩ := z
    exact f
end Q
namespace Q
open PySem L2 PySem.Spec PyProof.Rows
def top (i : Nat) : Stmt := PySem.Challenge.pw_onlylooks_k07_counts_of_words.main.body.getD i (.Pass ⟨0, 0, 0, 0⟩)
abbrev s_is_word : Stmt := top 13
abbrev N_is_word : List Str := ["value", "letter"]
abbrev p_is_word : List Str := ["value"]
theorem sc_is_word : FnScope N_is_word p_is_word (defScope s_is_word) := ⟨rfl, rfl, rfl, by decide +kernel, rfl, by decide +kernel, by decide +kernel⟩
abbrev s_is_list : Stmt := top 14
abbrev N_is_list : List Str := ["value"]
abbrev p_is_list : List Str := ["value"]
theorem sc_is_list : FnScope N_is_list p_is_list (defScope s_is_list) := ⟨rfl, rfl, rfl, by decide +kernel, rfl, by decide +kernel, by decide +kernel⟩
abbrev s_are_different : Stmt := top 15
abbrev N_are_different : List Str := ["items", "some", "place", "item"]
abbrev p_are_different : List Str := ["items"]
theorem sc_are_different : FnScope N_are_different p_are_different (defScope s_are_different) := ⟨rfl, rfl, rfl, by decide +kernel, rfl, by decide +kernel, by decide +kernel⟩
abbrev s_is_mark_column : Stmt := top 18
abbrev N_is_mark_column : List Str := ["value", "marks", "mark"]
abbrev p_is_mark_column : List Str := ["value"]
theorem sc_is_mark_column : FnScope N_is_mark_column p_is_mark_column (defScope s_is_mark_column) := ⟨rfl, rfl, rfl, by decide +kernel, rfl, by decide +kernel, by decide +kernel⟩
abbrev s_Table___init__ : Stmt := inClass (top 19) 0
abbrev N_Table___init__ : List Str := ["self", "name", "columns", "words", "one", "position", "word"]
abbrev p_Table___init__ : List Str := ["self", "name", "columns"]
theorem sc_Table___init__ : FnScope N_Table___init__ p_Table___init__ (defScope s_Table___init__) := ⟨rfl, rfl, rfl, by decide +kernel, rfl, by decide +kernel, by decide +kernel⟩
abbrev s_Table_name : Stmt := inClass (top 19) 1
abbrev N_Table_name : List Str := ["self"]
abbrev p_Table_name : List Str := ["self"]
theorem sc_Table_name : FnScope N_Table_name p_Table_name (defScope s_Table_name) := ⟨rfl, rfl, rfl, by decide +kernel, rfl, by decide +kernel, by decide +kernel⟩
abbrev s_Table_is_row : Stmt := inClass (top 19) 4
abbrev N_Table_is_row : List Str := ["self", "value", "column", "entry"]
abbrev p_Table_is_row : List Str := ["self", "value"]
theorem sc_Table_is_row : FnScope N_Table_is_row p_Table_is_row (defScope s_Table_is_row) := ⟨rfl, rfl, rfl, by decide +kernel, rfl, by decide +kernel, by decide +kernel⟩
abbrev s_Schema___init__ : Stmt := inClass (top 20) 0
abbrev N_Schema___init__ : List Str := ["self", "tables", "table"]
abbrev p_Schema___init__ : List Str := ["self", "tables"]
theorem sc_Schema___init__ : FnScope N_Schema___init__ p_Schema___init__ (defScope s_Schema___init__) := ⟨rfl, rfl, rfl, by decide +kernel, rfl, by decide +kernel, by decide +kernel⟩
abbrev s_Schema_names : Stmt := inClass (top 20) 1
abbrev N_Schema_names : List Str := ["self"]
abbrev p_Schema_names : List Str := ["self"]
theorem sc_Schema_names : FnScope N_Schema_names p_Schema_names (defScope s_Schema_names) := ⟨rfl, rfl, rfl, by decide +kernel, rfl, by decide +kernel, by decide +kernel⟩
abbrev s_Schema___contains__ : Stmt := inClass (top 20) 4
abbrev N_Schema___contains__ : List Str := ["self", "value"]
abbrev p_Schema___contains__ : List Str := ["self", "value"]
theorem sc_Schema___contains__ : FnScope N_Schema___contains__ p_Schema___contains__ (defScope s_Schema___contains__) := ⟨rfl, rfl, rfl, by decide +kernel, rfl, by decide +kernel, by decide +kernel⟩
abbrev s_Schema___getitem__ : Stmt := inClass (top 20) 2
abbrev N_Schema___getitem__ : List Str := ["self", "name"]
abbrev p_Schema___getitem__ : List Str := ["self", "name"]
theorem sc_Schema___getitem__ : FnScope N_Schema___getitem__ p_Schema___getitem__ (defScope s_Schema___getitem__) := ⟨rfl, rfl, rfl, by decide +kernel, rfl, by decide +kernel, by decide +kernel⟩
abbrev s_fits : Stmt := top 21
abbrev N_fits : List Str := ["table", "row", "words", "column", "told", "entry"]
abbrev p_fits : List Str := ["table", "row", "words"]
theorem sc_fits : FnScope N_fits p_fits (defScope s_fits) := ⟨rfl, rfl, rfl, by decide +kernel, rfl, by decide +kernel, by decide +kernel⟩
abbrev s_Database___init__ : Stmt := inClass (top 24) 0
abbrev N_Database___init__ : List Str := ["self", "schema", "name"]
abbrev p_Database___init__ : List Str := ["self", "schema"]
theorem sc_Database___init__ : FnScope N_Database___init__ p_Database___init__ (defScope s_Database___init__) := ⟨rfl, rfl, rfl, by decide +kernel, rfl, by decide +kernel, by decide +kernel⟩
abbrev s_Database_need_table : Stmt := inClass (top 24) 2
abbrev N_Database_need_table : List Str := ["self", "name"]
abbrev p_Database_need_table : List Str := ["self", "name"]
theorem sc_Database_need_table : FnScope N_Database_need_table p_Database_need_table (defScope s_Database_need_table) := ⟨rfl, rfl, rfl, by decide +kernel, rfl, by decide +kernel, by decide +kernel⟩
abbrev s_Database_need_rows : Stmt := inClass (top 24) 3
abbrev N_Database_need_rows : List Str := ["self", "name", "rows", "row"]
abbrev p_Database_need_rows : List Str := ["self", "name", "rows"]
theorem sc_Database_need_rows : FnScope N_Database_need_rows p_Database_need_rows (defScope s_Database_need_rows) := ⟨rfl, rfl, rfl, by decide +kernel, rfl, by decide +kernel, by decide +kernel⟩
abbrev s_Database___setitem__ : Stmt := inClass (top 24) 6
abbrev N_Database___setitem__ : List Str := ["self", "name", "rows", "row"]
abbrev p_Database___setitem__ : List Str := ["self", "name", "rows"]
theorem sc_Database___setitem__ : FnScope N_Database___setitem__ p_Database___setitem__ (defScope s_Database___setitem__) := ⟨rfl, rfl, rfl, by decide +kernel, rfl, by decide +kernel, by decide +kernel⟩
abbrev s_Database_count : Stmt := inClass (top 24) 10
abbrev N_Database_count : List Str := ["self", "name", "words", "table", "column", "row"]
abbrev p_Database_count : List Str := ["self", "name", "words"]
theorem sc_Database_count : FnScope N_Database_count p_Database_count (defScope s_Database_count) := ⟨rfl, rfl, rfl, by decide +kernel, rfl, by decide +kernel, by decide +kernel⟩
abbrev s__law_pen : Stmt := top 26
abbrev N__law_pen : List Str := ["_law_script"]
abbrev p__law_pen : List Str := ["_law_script"]
theorem sc__law_pen : FnScope N__law_pen p__law_pen (defScope s__law_pen) := ⟨rfl, rfl, rfl, by decide +kernel, rfl, by decide +kernel, by decide +kernel⟩
abbrev s__law_draw : Stmt := top 27
abbrev N__law_draw : List Str := ["_law_pen_here", "_law_span", "_law_turn", "_law_cell", "_law_primes", "_law_prime", "_law_drawn", "_law_digit"]
abbrev p__law_draw : List Str := ["_law_pen_here", "_law_span"]
theorem sc__law_draw : FnScope N__law_draw p__law_draw (defScope s__law_draw) := ⟨rfl, rfl, rfl, by decide +kernel, rfl, by decide +kernel, by decide +kernel⟩
abbrev s__law_pick : Stmt := top 28
abbrev N__law_pick : List Str := ["_law_pen_here", "_law_options"]
abbrev p__law_pick : List Str := ["_law_pen_here", "_law_options"]
theorem sc__law_pick : FnScope N__law_pick p__law_pick (defScope s__law_pick) := ⟨rfl, rfl, rfl, by decide +kernel, rfl, by decide +kernel, by decide +kernel⟩
abbrev s__law_shuffled : Stmt := top 29
abbrev N__law_shuffled : List Str := ["_law_pen_here", "_law_items", "_law_left", "_law_found"]
abbrev p__law_shuffled : List Str := ["_law_pen_here", "_law_items"]
theorem sc__law_shuffled : FnScope N__law_shuffled p__law_shuffled (defScope s__law_shuffled) := ⟨rfl, rfl, rfl, by decide +kernel, rfl, by decide +kernel, by decide +kernel⟩
abbrev s__law_words : Stmt := top 30
abbrev N__law_words : List Str := ["_law_pen_here", "_law_span", "_law_letters", "_law_stem", "_law_found", "_law_at", "_law_first", "_law_step", "_law_k"]
abbrev p__law_words : List Str := ["_law_pen_here", "_law_span"]
theorem sc__law_words : FnScope N__law_words p__law_words (defScope s__law_words) := ⟨rfl, rfl, rfl, by decide +kernel, rfl, by decide +kernel, by decide +kernel⟩
abbrev s__law_columns_of : Stmt := top 31
abbrev N__law_columns_of : List Str := ["_law_schema", "_law_title", "_law_name_here", "_law_columns"]
abbrev p__law_columns_of : List Str := ["_law_schema", "_law_title"]
theorem sc__law_columns_of : FnScope N__law_columns_of p__law_columns_of (defScope s__law_columns_of) := ⟨rfl, rfl, rfl, by decide +kernel, rfl, by decide +kernel, by decide +kernel⟩
abbrev s__law_spot : Stmt := top 32
abbrev N__law_spot : List Str := ["_law_schema", "_law_title", "_law_column", "_law_columns", "_law_k"]
abbrev p__law_spot : List Str := ["_law_schema", "_law_title", "_law_column"]
theorem sc__law_spot : FnScope N__law_spot p__law_spot (defScope s__law_spot) := ⟨rfl, rfl, rfl, by decide +kernel, rfl, by decide +kernel, by decide +kernel⟩
abbrev s__law_row_fits : Stmt := top 33
abbrev N__law_row_fits : List Str := ["_law_schema", "_law_title", "_law_row", "_law_lets_here", "_law_column"]
abbrev p__law_row_fits : List Str := ["_law_schema", "_law_title", "_law_row", "_law_lets_here"]
theorem sc__law_row_fits : FnScope N__law_row_fits p__law_row_fits (defScope s__law_row_fits) := ⟨rfl, rfl, rfl, by decide +kernel, rfl, by decide +kernel, by decide +kernel⟩
abbrev s__law_made_table : Stmt := top 34
abbrev N__law_made_table : List Str := ["_law_plain", "_law_some", "_law_title", "_law_columns", "_law_word", "_law_marks"]
abbrev p__law_made_table : List Str := ["_law_plain"]
theorem sc__law_made_table : FnScope N__law_made_table p__law_made_table (defScope s__law_made_table) := ⟨rfl, rfl, rfl, by decide +kernel, rfl, by decide +kernel, by decide +kernel⟩
abbrev s__law_made_schema : Stmt := top 35
abbrev N__law_made_schema : List Str := ["_law_schema", "_law_some", "_law_plain"]
abbrev p__law_made_schema : List Str := ["_law_schema"]
theorem sc__law_made_schema : FnScope N__law_made_schema p__law_made_schema (defScope s__law_made_schema) := ⟨rfl, rfl, rfl, by decide +kernel, rfl, by decide +kernel, by decide +kernel⟩
abbrev s__law_made_database : Stmt := top 36
abbrev N__law_made_database : List Str := ["_law_schema", "_law_rows", "_law_made", "_law_title", "_law_columns"]
abbrev p__law_made_database : List Str := ["_law_schema", "_law_rows"]
theorem sc__law_made_database : FnScope N__law_made_database p__law_made_database (defScope s__law_made_database) := ⟨rfl, rfl, rfl, by decide +kernel, rfl, by decide +kernel, by decide +kernel⟩
abbrev s__law_schema_drawn : Stmt := top 37
abbrev N__law_schema_drawn : List Str := ["_law_pen_here", "_law_most_tables", "_law_most_columns", "_law_words_here", "_law_k", "_law_marks", "_law_found", "_law_columns", "_law_word"]
abbrev p__law_schema_drawn : List Str := ["_law_pen_here", "_law_most_tables", "_law_most_columns"]
theorem sc__law_schema_drawn : FnScope N__law_schema_drawn p__law_schema_drawn (defScope s__law_schema_drawn) := ⟨rfl, rfl, rfl, by decide +kernel, rfl, by decide +kernel, by decide +kernel⟩
abbrev s__law_names : Stmt := top 38
abbrev N__law_names : List Str := ["_law_pen_here", "_law_span"]
abbrev p__law_names : List Str := ["_law_pen_here", "_law_span"]
theorem sc__law_names : FnScope N__law_names p__law_names (defScope s__law_names) := ⟨rfl, rfl, rfl, by decide +kernel, rfl, by decide +kernel, by decide +kernel⟩
abbrev s__law_row_drawn : Stmt := top 39
abbrev N__law_row_drawn : List Str := ["_law_pen_here", "_law_columns", "_law_names_here", "_law_word", "_law_marks"]
abbrev p__law_row_drawn : List Str := ["_law_pen_here", "_law_columns", "_law_names_here"]
theorem sc__law_row_drawn : FnScope N__law_row_drawn p__law_row_drawn (defScope s__law_row_drawn) := ⟨rfl, rfl, rfl, by decide +kernel, rfl, by decide +kernel, by decide +kernel⟩
abbrev s__law_rows_drawn : Stmt := top 40
abbrev N__law_rows_drawn : List Str := ["_law_pen_here", "_law_schema", "_law_names_here", "_law_most_rows", "_law_found", "_law_title", "_law_columns", "_law_some", "_law_k"]
abbrev p__law_rows_drawn : List Str := ["_law_pen_here", "_law_schema", "_law_names_here", "_law_most_rows"]
theorem sc__law_rows_drawn : FnScope N__law_rows_drawn p__law_rows_drawn (defScope s__law_rows_drawn) := ⟨rfl, rfl, rfl, by decide +kernel, rfl, by decide +kernel, by decide +kernel⟩
abbrev s__law_lets : Stmt := top 41
abbrev N__law_lets : List Str := ["_law_pen_here", "_law_columns", "_law_names_here", "_law_found", "_law_word", "_law_marks", "_law_some", "_law_few"]
abbrev p__law_lets : List Str := ["_law_pen_here", "_law_columns", "_law_names_here"]
theorem sc__law_lets : FnScope N__law_lets p__law_lets (defScope s__law_lets) := ⟨rfl, rfl, rfl, by decide +kernel, rfl, by decide +kernel, by decide +kernel⟩
abbrev s_law : Stmt := top 42
abbrev N_law : List Str := ["_law_script", "_law_pen_here", "_law_turn", "_law_rows", "_law_made", "_law_again", "_law_schema", "_law_names_here", "_law_lets_here", "_law_wide", "_law_due", "_law_title", "_law_columns", "_law_word", "_law_row"]
abbrev p_law : List Str := ["_law_script"]
theorem sc_law : FnScope N_law p_law (defScope s_law) := ⟨rfl, rfl, rfl, by decide +kernel, rfl, by decide +kernel, by decide +kernel⟩
end Q
namespace Q
open PySem L2 PySem.Spec PyProof.Rows
structure Cs where
  InvalidTable : Addr
  InvalidSchema : Addr
  InvalidRow : Addr
  OtherSchema : Addr
  UnknownTable : Addr
  UnknownColumn : Addr
  Table : Addr
  Schema : Addr
  Filled : Addr
  Database : Addr
  zz : Addr
/-- facts of classes that the plain laws need -/
structure Fk (K : PySem.W.Frag) (cs : Cs) : Prop where
  f_Table_own_name : FldOk K cs.Table "own_name"
  f_Table_own_columns : FldOk K cs.Table "own_columns"
  f_Table_own_marks : FldOk K cs.Table "own_marks"
  f_Table_own_positions : FldOk K cs.Table "own_positions"
  f_Schema_own_tables : FldOk K cs.Schema "own_tables"
  f_Database_own_schema : FldOk K cs.Database "own_schema"
  f_Database_own_rows : FldOk K cs.Database "own_rows"
  i_Table : InsT K cs.Table
  i_Schema : InsT K cs.Schema
  k0 : PySem.W.kitOne K (.ref cs.Table) (.ref cs.Table) = some true
  k1 : PySem.W.kitOne K (.ref cs.Schema) (.ref cs.Filled) = some false
structure All (K : PySem.W.Frag) (mg : Str → Option Value) (cs : Cs) where
  fk : Fk K cs
  a_is_word : Addr
  d_is_word : FuncData
  F_is_word : Fun K "is_word" "is_word" s_is_word a_is_word d_is_word
  D_is_word : Dk K mg "is_word" a_is_word d_is_word p_is_word
  a_is_list : Addr
  d_is_list : FuncData
  F_is_list : Fun K "is_list" "is_list" s_is_list a_is_list d_is_list
  D_is_list : Dk K mg "is_list" a_is_list d_is_list p_is_list
  a_are_different : Addr
  d_are_different : FuncData
  F_are_different : Fun K "are_different" "are_different" s_are_different a_are_different d_are_different
  D_are_different : Dk K mg "are_different" a_are_different d_are_different p_are_different
  a_is_mark_column : Addr
  d_is_mark_column : FuncData
  F_is_mark_column : Fun K "is_mark_column" "is_mark_column" s_is_mark_column a_is_mark_column d_is_mark_column
  D_is_mark_column : Dk K mg "is_mark_column" a_is_mark_column d_is_mark_column p_is_mark_column
  a_Table___init__ : Addr
  d_Table___init__ : FuncData
  F_Table___init__ : Fun K "__init__" "Table.__init__" s_Table___init__ a_Table___init__ d_Table___init__
  M_Table___init__ : Meth K cs.Table "__init__" a_Table___init__
  mk_Table : Mk K cs.Table a_Table___init__
  a_Table_name : Addr
  d_Table_name : FuncData
  F_Table_name : Fun K "name" "Table.name" s_Table_name a_Table_name d_Table_name
  p_Table_name_ : Addr
  P_Table_name : PropOf K cs.Table "name" p_Table_name_ a_Table_name
  B_Table_name : Binds K d_Table_name p_Table_name []
  a_Table_is_row : Addr
  d_Table_is_row : FuncData
  F_Table_is_row : Fun K "is_row" "Table.is_row" s_Table_is_row a_Table_is_row d_Table_is_row
  M_Table_is_row : Meth K cs.Table "is_row" a_Table_is_row
  B_Table_is_row : Binds K d_Table_is_row p_Table_is_row []
  a_Schema___init__ : Addr
  d_Schema___init__ : FuncData
  F_Schema___init__ : Fun K "__init__" "Schema.__init__" s_Schema___init__ a_Schema___init__ d_Schema___init__
  M_Schema___init__ : Meth K cs.Schema "__init__" a_Schema___init__
  mk_Schema : Mk K cs.Schema a_Schema___init__
  a_Schema_names : Addr
  d_Schema_names : FuncData
  F_Schema_names : Fun K "names" "Schema.names" s_Schema_names a_Schema_names d_Schema_names
  p_Schema_names_ : Addr
  P_Schema_names : PropOf K cs.Schema "names" p_Schema_names_ a_Schema_names
  B_Schema_names : Binds K d_Schema_names p_Schema_names []
  a_Schema___contains__ : Addr
  d_Schema___contains__ : FuncData
  F_Schema___contains__ : Fun K "__contains__" "Schema.__contains__" s_Schema___contains__ a_Schema___contains__ d_Schema___contains__
  M_Schema___contains__ : Meth K cs.Schema "__contains__" a_Schema___contains__
  B_Schema___contains__ : Binds K d_Schema___contains__ p_Schema___contains__ []
  a_Schema___getitem__ : Addr
  d_Schema___getitem__ : FuncData
  F_Schema___getitem__ : Fun K "__getitem__" "Schema.__getitem__" s_Schema___getitem__ a_Schema___getitem__ d_Schema___getitem__
  M_Schema___getitem__ : Meth K cs.Schema "__getitem__" a_Schema___getitem__
  B_Schema___getitem__ : Binds K d_Schema___getitem__ p_Schema___getitem__ []
  fi_Schema___getitem__ : PySem.W.fnIn K a_Schema___getitem__ = true
  a_fits : Addr
  d_fits : FuncData
  F_fits : Fun K "fits" "fits" s_fits a_fits d_fits
  D_fits : Dk K mg "fits" a_fits d_fits p_fits
  a_Database___init__ : Addr
  d_Database___init__ : FuncData
  F_Database___init__ : Fun K "__init__" "Database.__init__" s_Database___init__ a_Database___init__ d_Database___init__
  M_Database___init__ : Meth K cs.Database "__init__" a_Database___init__
  B_Database___init__ : Binds K d_Database___init__ p_Database___init__ []
  mk_Database : Mk K cs.Database a_Database___init__
  a_Database_need_table : Addr
  d_Database_need_table : FuncData
  F_Database_need_table : Fun K "need_table" "Database.need_table" s_Database_need_table a_Database_need_table d_Database_need_table
  M_Database_need_table : Meth K cs.Database "need_table" a_Database_need_table
  B_Database_need_table : Binds K d_Database_need_table p_Database_need_table []
  a_Database_need_rows : Addr
  d_Database_need_rows : FuncData
  F_Database_need_rows : Fun K "need_rows" "Database.need_rows" s_Database_need_rows a_Database_need_rows d_Database_need_rows
  M_Database_need_rows : Meth K cs.Database "need_rows" a_Database_need_rows
  B_Database_need_rows : Binds K d_Database_need_rows p_Database_need_rows []
  a_Database___setitem__ : Addr
  d_Database___setitem__ : FuncData
  F_Database___setitem__ : Fun K "__setitem__" "Database.__setitem__" s_Database___setitem__ a_Database___setitem__ d_Database___setitem__
  M_Database___setitem__ : Meth K cs.Database "__setitem__" a_Database___setitem__
  B_Database___setitem__ : Binds K d_Database___setitem__ p_Database___setitem__ []
  nq_Database : PySem.W.noSeq K cs.Database = true
  a_Database_count : Addr
  d_Database_count : FuncData
  F_Database_count : Fun K "count" "Database.count" s_Database_count a_Database_count d_Database_count
  M_Database_count : Meth K cs.Database "count" a_Database_count
  B_Database_count : Binds K d_Database_count p_Database_count []
  a__law_pen : Addr
  d__law_pen : FuncData
  F__law_pen : Fun K "_law_pen" "_law_pen" s__law_pen a__law_pen d__law_pen
  D__law_pen : Dk K mg "_law_pen" a__law_pen d__law_pen p__law_pen
  a__law_draw : Addr
  d__law_draw : FuncData
  F__law_draw : Fun K "_law_draw" "_law_draw" s__law_draw a__law_draw d__law_draw
  D__law_draw : Dk K mg "_law_draw" a__law_draw d__law_draw p__law_draw
  a__law_pick : Addr
  d__law_pick : FuncData
  F__law_pick : Fun K "_law_pick" "_law_pick" s__law_pick a__law_pick d__law_pick
  D__law_pick : Dk K mg "_law_pick" a__law_pick d__law_pick p__law_pick
  a__law_shuffled : Addr
  d__law_shuffled : FuncData
  F__law_shuffled : Fun K "_law_shuffled" "_law_shuffled" s__law_shuffled a__law_shuffled d__law_shuffled
  D__law_shuffled : Dk K mg "_law_shuffled" a__law_shuffled d__law_shuffled p__law_shuffled
  a__law_words : Addr
  d__law_words : FuncData
  F__law_words : Fun K "_law_words" "_law_words" s__law_words a__law_words d__law_words
  D__law_words : Dk K mg "_law_words" a__law_words d__law_words p__law_words
  a__law_columns_of : Addr
  d__law_columns_of : FuncData
  F__law_columns_of : Fun K "_law_columns_of" "_law_columns_of" s__law_columns_of a__law_columns_of d__law_columns_of
  D__law_columns_of : Dk K mg "_law_columns_of" a__law_columns_of d__law_columns_of p__law_columns_of
  a__law_spot : Addr
  d__law_spot : FuncData
  F__law_spot : Fun K "_law_spot" "_law_spot" s__law_spot a__law_spot d__law_spot
  D__law_spot : Dk K mg "_law_spot" a__law_spot d__law_spot p__law_spot
  a__law_row_fits : Addr
  d__law_row_fits : FuncData
  F__law_row_fits : Fun K "_law_row_fits" "_law_row_fits" s__law_row_fits a__law_row_fits d__law_row_fits
  D__law_row_fits : Dk K mg "_law_row_fits" a__law_row_fits d__law_row_fits p__law_row_fits
  a__law_made_table : Addr
  d__law_made_table : FuncData
  F__law_made_table : Fun K "_law_made_table" "_law_made_table" s__law_made_table a__law_made_table d__law_made_table
  D__law_made_table : Dk K mg "_law_made_table" a__law_made_table d__law_made_table p__law_made_table
  a__law_made_schema : Addr
  d__law_made_schema : FuncData
  F__law_made_schema : Fun K "_law_made_schema" "_law_made_schema" s__law_made_schema a__law_made_schema d__law_made_schema
  D__law_made_schema : Dk K mg "_law_made_schema" a__law_made_schema d__law_made_schema p__law_made_schema
  a__law_made_database : Addr
  d__law_made_database : FuncData
  F__law_made_database : Fun K "_law_made_database" "_law_made_database" s__law_made_database a__law_made_database d__law_made_database
  D__law_made_database : Dk K mg "_law_made_database" a__law_made_database d__law_made_database p__law_made_database
  a__law_schema_drawn : Addr
  d__law_schema_drawn : FuncData
  F__law_schema_drawn : Fun K "_law_schema_drawn" "_law_schema_drawn" s__law_schema_drawn a__law_schema_drawn d__law_schema_drawn
  D__law_schema_drawn : Dk K mg "_law_schema_drawn" a__law_schema_drawn d__law_schema_drawn p__law_schema_drawn
  a__law_names : Addr
  d__law_names : FuncData
  F__law_names : Fun K "_law_names" "_law_names" s__law_names a__law_names d__law_names
  D__law_names : Dk K mg "_law_names" a__law_names d__law_names p__law_names
  a__law_row_drawn : Addr
  d__law_row_drawn : FuncData
  F__law_row_drawn : Fun K "_law_row_drawn" "_law_row_drawn" s__law_row_drawn a__law_row_drawn d__law_row_drawn
  D__law_row_drawn : Dk K mg "_law_row_drawn" a__law_row_drawn d__law_row_drawn p__law_row_drawn
  a__law_rows_drawn : Addr
  d__law_rows_drawn : FuncData
  F__law_rows_drawn : Fun K "_law_rows_drawn" "_law_rows_drawn" s__law_rows_drawn a__law_rows_drawn d__law_rows_drawn
  D__law_rows_drawn : Dk K mg "_law_rows_drawn" a__law_rows_drawn d__law_rows_drawn p__law_rows_drawn
  a__law_lets : Addr
  d__law_lets : FuncData
  F__law_lets : Fun K "_law_lets" "_law_lets" s__law_lets a__law_lets d__law_lets
  D__law_lets : Dk K mg "_law_lets" a__law_lets d__law_lets p__law_lets
  a_law : Addr
  d_law : FuncData
  F_law : Fun K "law" "law" s_law a_law d_law
  D_law : Dk K mg "law" a_law d_law p_law
  b_isinstance : mg "isinstance" = none
  b_str : mg "str" = none
  b_len : mg "len" = none
  b_all : mg "all" = none
  b_any : mg "any" = none
  b_list : mg "list" = none
  b_tuple : mg "tuple" = none
  b_enumerate : mg "enumerate" = none
  b_zip : mg "zip" = none
  b_range : mg "range" = none
  b_int : mg "int" = none
  b_abs : mg "abs" = none
  b_repr : mg "repr" = none
  b_dict : mg "dict" = none
  k_MAX_WORD : ∃ t, mg "MAX_WORD" = some (.int 8 t)
  k_MAX_TABLES : ∃ t, mg "MAX_TABLES" = some (.int 4 t)
  k_MAX_COLUMNS : ∃ t, mg "MAX_COLUMNS" = some (.int 3 t)
  k_SMALL : ∃ t, mg "SMALL" = some (.str "abcdefghijklmnopqrstuvwxyz" t)
  k_MAX_MARKS : ∃ t, mg "MAX_MARKS" = some (.int 3 t)
  g_InvalidTable : mg "InvalidTable" = some (.ref cs.InvalidTable)
  g_InvalidSchema : mg "InvalidSchema" = some (.ref cs.InvalidSchema)
  g_InvalidRow : mg "InvalidRow" = some (.ref cs.InvalidRow)
  g_UnknownTable : mg "UnknownTable" = some (.ref cs.UnknownTable)
  g_UnknownColumn : mg "UnknownColumn" = some (.ref cs.UnknownColumn)
  g_Table : mg "Table" = some (.ref cs.Table)
  cl_Table : Cls K cs.Table
  g_Schema : mg "Schema" = some (.ref cs.Schema)
  cl_Schema : Cls K cs.Schema
  g_Filled : mg "Filled" = some (.ref cs.Filled)
  g_Database : mg "Database" = some (.ref cs.Database)
  cl_Database : Cls K cs.Database
end Q
namespace Q
open PySem L2
structure BiP (mg : Str → Option Value) : Prop where
  len : mg "len" = none
  list : mg "list" = none
  int : mg "int" = none
  abs : mg "abs" = none
theorem dget_some {H : Hp} {a : Addr} {kvs : List (Key × V)} {k : Key} {v : V} (h : H a = some (.dK kvs)) (e : valV kvs k = some v) : DGet H a (kV k) (some v) := by rw [← e]; exact .k h
section
variable {P : Program} {w : World} {K : PySem.W.Frag} {mg : Str → Option Value} {base : Heap} {f : Addr} {fd : FuncData} {f1 f2 f3 : Addr} {fd1 fd2 fd3 : FuncData} {cs : Cs}

theorem ok_pen0 (F : Fun K "_law_pen" "_law_pen" s__law_pen f fd) (B : BiP mg) : FnOk P w K mg base CX0 1 f fd ["_law_script"] (spPen K) := by
  refine F.ok sc__law_pen (fun vs H Q E h => ?_) (fun cdv A outer s H vs Q E hr h => ?_)
  · obtain ⟨a, ns, rfl, _⟩ := h
    rfl
  · obtain ⟨a, ns, rfl, hs, hn, k⟩ := h
    refine ⟨_, (pss_one (ps_ret (pe_disp (pps_cons pe_str (pe_callTy (kList K) (by rfl) B.list (by decide +kernel) (pa_cons (pe_slice (kSlL K) (pv 0) po_none (po_some pe_int)) pa_nil)) (pps_cons pe_str pe_int (pps_cons pe_str pe_int pps_nil))) (by rfl) (by rfl) (fun z => by cases z) (by decide)))), ?_⟩
    intro p hp
    refine ⟨_, rfl, _, rfl, a, _, rfl, same_l (same_new hp) hs, fun b hb => ?_⟩
    have npb : p ≠ b := ne_of_none upd_same hb
    refine ⟨b, _, rfl, .inl (SqL.of upd_same), fun c hc => ?_⟩
    have npc : p ≠ c := ne_of_none (by rw [upd_ne npb]; exact upd_same) hc
    refine ⟨by rw [upd_ne npc, upd_ne npb]; exact upd_same, penK c 0 0, rfl, (show 3 ≤ 15 by decide), ?_⟩
    have e1 : cutV (ns.map V.int) none (some 63) = ns.map V.int := by
      rw [show (63 : Int) = ((63 : Nat) : Int) from rfl, cut_take, List.take_of_length_le (by rw [List.length_map]; exact hn)]
    refine k p c _ hp (upd_none (upd_none hc)) npc (same_mut (((same_new hp).trans (same_new hb)).trans (same_new hc)) hp) ⟨ns, 0, 0, ?_, ?_, hn, by omega, by omega, by omega⟩
    · rw [upd_same]
      rfl
    · rw [upd_ne npc.symm, upd_same, e1]

theorem ok_draw0 (F : Fun K "_law_draw" "_law_draw" s__law_draw f fd) (B : BiP mg) : FnOk P w K mg base CX0 1 f fd ["_law_pen_here", "_law_span"] spDraw := by
  refine F.ok sc__law_draw (fun vs H Q E h => ?_) (fun cdv A outer s H vs Q E hr h => ?_)
  · obtain ⟨p, c, n, span, rfl, _⟩ := h
    rfl
  · obtain ⟨p, c, n, span, rfl, hp, hn, h0, h1, k⟩ := h
    have hu := hu_of hr
    refine ⟨_, (pss_cons (ps_if (pt_cmpR op_gt (pe_dget hu (pv 0) pe_str (fun _ _ => rfl)) pe_int (nomark _)) (pss_cons (ps_set (i := 7) sc__law_draw.nd rfl (Or.inl rfl) (pe_op op_mod (pe_callTy call_int1 (by rfl) B.int (by decide +kernel) (pa_cons (pe_dget hu (pv 0) pe_str (fun _ _ => rfl)) pa_nil)) (pv 1)))
      (pss_cons (ps_dput hu (pv 0) pe_str (pe_op op_fdiv (pe_dget hu (pv 0) pe_str (fun _ _ => rfl)) (pv 1)) rfl)
      (pss_one (ps_ret (pv 7))))) pss_nil)
      (pss_cons (ps_set (i := 2) sc__law_draw.nd rfl (Or.inl rfl) (pe_dget hu (pv 0) pe_str (fun _ _ => rfl)))
      (pss_cons (ps_dput hu (pv 0) pe_str (pe_op op_add (pv 2) pe_int) rfl)
      (pss_cons (ps_set (i := 3) sc__law_draw.nd rfl (Or.inl rfl) (pe_op op_add (pe_op op_mul pe_int (pv 2)) pe_int))
      (pss_cons (ps_if (pt_cmpR (kNeD K hr.units) (pe_dget hu (pv 0) pe_str (fun _ _ => rfl)) (pe_lst pa_nil) (nomark _)) (pss_one (ps_set (i := 3) sc__law_draw.nd rfl (Or.inl rfl) (pe_ix (kIxL K) (pe_dget hu (pv 0) pe_str (fun _ _ => rfl)) (pe_op op_mod (pe_callTy call_int1 (by rfl) B.int (by decide +kernel) (pa_cons (pv 2) pa_nil)) (pe_callB (kLen K) (by rfl) B.len (by decide +kernel) (pa_cons (pe_dget hu (pv 0) pe_str (fun _ _ => rfl)) pa_nil))) (fun _ _ => rfl)))) pss_nil)
      (pss_cons (ps_if (PW.pt (pw_and (pt_cmpR op_lt (pv 2) (pe_callB (kLen K) (by rfl) B.len (by decide +kernel) (pa_cons (pe_dget hu (pv 0) pe_str (fun _ _ => rfl)) pa_nil)) (nomark _)) (pw_and1 (pt_cmpR op_ge (pe_callB call_abs (by rfl) B.abs (by decide +kernel) (pa_cons (pv 3) pa_nil)) (pe_op op_pow pe_int pe_int) (nomark _))))) (pss_cons (ps_dput hu (pv 0) pe_str (pe_op op_fdiv (pe_op op_sub (pe_callB call_abs (by rfl) B.abs (by decide +kernel) (pa_cons (pv 3) pa_nil)) (pe_op op_pow pe_int pe_int)) (pv 1)) rfl)
      (pss_one (ps_ret (pe_op op_mod (pe_callTy call_int1 (by rfl) B.int (by decide +kernel) (pa_cons (pe_op op_sub (pe_callB call_abs (by rfl) B.abs (by decide +kernel) (pa_cons (pv 3) pa_nil)) (pe_op op_pow pe_int pe_int)) pa_nil)) (pv 1))))) pss_nil)
      (pss_cons (ps_set (i := 4) sc__law_draw.nd rfl (Or.inl rfl) (pe_lst (pa_cons pe_int (pa_cons pe_int (pa_cons pe_int (pa_cons pe_int (pa_cons pe_int pa_nil)))))))
      (pss_cons (ps_set (i := 5) sc__law_draw.nd rfl (Or.inl rfl) (pe_ix (kIxL K) (pv 4) (pe_op op_mod (pe_callTy call_int1 (by rfl) B.int (by decide +kernel) (pa_cons (pv 2) pa_nil)) pe_int) (fun _ _ => rfl)))
      (pss_cons (ps_set (i := 6) sc__law_draw.nd rfl (Or.inl rfl) (pe_op op_mod (pe_callTy call_int1 (by rfl) B.int (by decide +kernel) (pa_cons (pe_op op_add (pe_op op_add (pe_op op_mul (pe_op op_mod (pe_callTy call_int1 (by rfl) B.int (by decide +kernel) (pa_cons (pv 3) pa_nil)) (pv 5)) pe_int) (pe_op op_mul (pv 2) (pe_op op_add (pe_op op_mul pe_int (pv 2)) pe_int))) pe_int) pa_nil)) (pv 5)))
      (pss_cons (ps_set (i := 6) sc__law_draw.nd rfl (Or.inl rfl) (pe_op op_mod (pe_callTy call_int1 (by rfl) B.int (by decide +kernel) (pa_cons (pe_op op_mul (pv 6) (pe_op op_add (pv 6) pe_int)) pa_nil)) (pe_ix (kIxL K) (pv 4) (pe_op op_mod (pe_callTy call_int1 (by rfl) B.int (by decide +kernel) (pa_cons (pe_op op_add (pv 2) pe_int) pa_nil)) pe_int) (fun _ _ => rfl))))
      (pss_one (ps_ret (pe_op op_mod (pe_callTy call_int1 (by rfl) B.int (by decide +kernel) (pa_cons (pe_op op_fdiv (pe_op op_mod (pe_callTy call_int1 (by rfl) B.int (by decide +kernel) (pa_cons (pe_op op_add (pe_op op_add (pe_op op_mul (pv 6) (pv 6)) (pe_op op_mul pe_int (pv 6))) (pv 2)) pa_nil)) pe_int) pe_int) pa_nil)) (pv 1)))))))))))))), ?_⟩
    obtain ⟨cells, t, l, q1, q2, q3, q4, q5, q6⟩ := hp.ex
    have ncp : c ≠ p := ne_of q2 q1 (by intro z; cases z)
    refine ⟨_, rfl, p, _, rfl, dget_some (k := kL) q1 (pen_left c t l), _, _, rfl, rfl, _, rfl, ?_⟩
    refine ite2 (fun hl => ?_) (fun hl => ?_)
    · -- a digit is left
      refine ⟨_, rfl, p, _, rfl, dget_some (k := kL) q1 (pen_left c t l), .inl ⟨_, rfl, _, rfl, _, _, rfl, rfl, h0, ?_⟩⟩
      refine ⟨_, rfl, p, _, rfl, dget_some (k := kL) q1 (pen_left c t l), _, rfl, _, _, rfl, rfl, ⟨h0, by omega⟩, _, rfl, p, _, rfl, DPut.k (k := kL) q1 (pen_len _ _ _), ?_⟩
      rw [put_left]
      refine ⟨_, rfl, k _ _ (Int.emod_nonneg _ (by omega)) (Int.emod_lt_of_pos _ h0) (sm_pen q1) ⟨cells, t, l / span, upd_same, by rw [upd_ne ncp]; exact q2, q3, q4, by omega, Int.ediv_nonneg q6 (by omega)⟩⟩
    · -- the next cell
      refine ⟨_, rfl, p, _, rfl, dget_some (k := kT) q1 (pen_turn c t l), ?_⟩
      refine ⟨_, rfl, _, _, rfl, rfl, _, rfl, p, _, rfl, DPut.k (k := kT) q1 (pen_len _ _ _), ?_⟩
      rw [put_turn]
      have s1 : Sb p H (upd H p (.dK (penK c (t + 1) l))) := sm_pen q1
      have r1 : (upd H p (.dK (penK c (t + 1) l))) p = some (.dK (penK c (t + 1) l)) := upd_same
      have r2 : (upd H p (.dK (penK c (t + 1) l))) c = some (.lst (cells.map V.int)) := by rw [upd_ne ncp]; exact q2
      generalize upd H p (.dK (penK c (t + 1) l)) = H1 at s1 r1 r2 ⊢
      refine ⟨_, rfl, _, _, rfl, rfl, .inl ⟨by decide, by decide⟩, _, _, rfl, rfl, ?_⟩
      refine ⟨_, rfl, p, _, rfl, dget_some (k := kC) r1 (pen_cells c _ l), Nat.zero_le _, fun e he => ?_⟩
      refine ⟨.list (cells.map PyData.int), .list [], .lst (SqL.of (same_new he _ _ r2)) (dpAll_ints _), .lst (SqL.of upd_same) .nil, shaped_ints _, rfl, _, rfl, ?_⟩
      have s2 : Sb p H (upd H1 e (.lst [])) := s1.trans (.of (same_new he))
      have r3 := same_new (o := HO.lst []) he _ _ r1
      have r4 := same_new (o := HO.lst []) he _ _ r2
      generalize upd H1 e (.lst []) = H2 at s2 r3 r4 ⊢
      rw [eqv_nil]
      have hlen : (cells.map V.int).length = cells.length := List.length_map ..
      refine ite2 (fun hc => ?_) (fun hc => ?_)
      · have hpos : 0 < cells.length := by
          cases cells with
          | nil => cases hc
          | cons a b => exact Nat.succ_pos _
        obtain ⟨x, ex⟩ := at_mod (xs := cells) q4 hpos
        refine ⟨_, rfl, p, _, rfl, dget_some (k := kC) r3 (pen_cells c _ l), _, rfl, .inl ⟨_, rfl, _, rfl, p, _, rfl, dget_some (k := kC) r3 (pen_cells c _ l), c, _, rfl, .inl (SqL.of r4), _, _, rfl, rfl, by rw [hlen]; omega, c, _, _, _, rfl, rfl, SqL.of r4, by rw [hlen]; exact ex, ?_⟩⟩
        refine ⟨_, rfl, _, rfl, p, _, rfl, dget_some (k := kC) r3 (pen_cells c _ l), c, _, rfl, .inl (SqL.of r4), _, _, rfl, rfl, _, rfl, ?_⟩
        generalize x = cv
        refine ite_next ?_ (fun hN _ => ?_)
        · refine ⟨by decide, fun e2 he2 => ?_⟩
          have s3 : Sb p H (upd H2 e2 (.lst [V.int 2147483629, V.int 2147483647, V.int 2147483587, V.int 2147483563, V.int 2147483579])) := s2.trans (.of (same_new he2))
          have r5 := same_new (o := HO.lst [V.int 2147483629, V.int 2147483647, V.int 2147483587, V.int 2147483563, V.int 2147483579]) he2 _ _ r3
          have r6 := same_new (o := HO.lst [V.int 2147483629, V.int 2147483647, V.int 2147483587, V.int 2147483563, V.int 2147483579]) he2 _ _ r4
          have r7 : (upd H2 e2 (.lst [V.int 2147483629, V.int 2147483647, V.int 2147483587, V.int 2147483563, V.int 2147483579])) e2 = some (.lst [V.int 2147483629, V.int 2147483647, V.int 2147483587, V.int 2147483563, V.int 2147483579]) := upd_same
          generalize upd H2 e2 (.lst [V.int 2147483629, V.int 2147483647, V.int 2147483587, V.int 2147483563, V.int 2147483579]) = H3 at s3 r5 r6 r7 ⊢
          obtain ⟨pr, ep, hp0, hp1⟩ := primes_at (t % 5) (Int.emod_nonneg _ (by decide)) (Int.emod_lt_of_pos _ (by decide))
          obtain ⟨qr, eq, hq0, hq1⟩ := primes_at ((t + 2) % 5) (Int.emod_nonneg _ (by decide)) (Int.emod_lt_of_pos _ (by decide))
          have ht1 : -(2 ^ 64) < t := by omega
          have ht2 : t < 2 ^ 64 := by omega
          refine ⟨_, rfl, _, rfl, .inl ⟨_, rfl, _, _, rfl, rfl, (show (0 : Int) < 5 by decide), e2, _, _, _, rfl, rfl, SqL.of r7, ep, ?_⟩⟩
          refine ⟨_, rfl, .inl ⟨_, rfl, _, rfl, _, _, rfl, rfl, hp0, _, _, rfl, rfl, .inr ⟨by decide, by decide⟩, _, rfl, _, rfl, _, _, rfl, rfl, .inl ⟨by decide, by decide⟩, _, _, rfl, rfl, _, _, rfl, rfl, .inl ⟨ht1, ht2⟩, _, _, rfl, rfl, _, _, rfl, rfl, .inl ⟨_, rfl, _, rfl, _, _, rfl, rfl, hp0, ?_⟩⟩⟩
          refine ⟨_, rfl, _, rfl, _, _, rfl, rfl, _, _, rfl, rfl, .inl (mod_small hp0 hp1), .inl ⟨_, rfl, _, rfl, _, rfl, _, _, rfl, rfl, .inl ⟨_, rfl, _, _, rfl, rfl, (show (0 : Int) < 5 by decide), e2, _, _, _, rfl, rfl, SqL.of r7, eq, _, _, rfl, rfl, hq0, ?_⟩⟩⟩
          refine ⟨_, rfl, _, rfl, _, _, rfl, rfl, .inl (mod_small hq0 hq1), _, rfl, _, _, rfl, rfl, .inl ⟨by decide, by decide⟩, _, _, rfl, rfl, _, rfl, _, _, rfl, rfl, .inl ⟨_, rfl, _, _, rfl, rfl, (show (0 : Int) < 2147483549 by decide), _, _, rfl, rfl, ⟨by decide, by decide⟩, .inl ⟨_, rfl, _, rfl, _, _, rfl, rfl, h0, ?_⟩⟩⟩
          exact k _ _ (Int.emod_nonneg _ (by omega)) (Int.emod_lt_of_pos _ h0) s3 ⟨cells, t + 1, l, r5, r6, q3, by omega, by omega, q6⟩
        · refine ⟨_, rfl, _, rfl, _, _, rfl, rfl, ⟨by decide, by decide, by decide⟩, _, _, rfl, rfl, _, rfl, ?_⟩
          refine ite2 (fun hb => ?_) (fun _ => hN)
          have hb2 := of_decide_eq_true hb
          refine ⟨_, rfl, _, rfl, _, _, rfl, rfl, ⟨by decide, by decide, by decide⟩, _, _, rfl, rfl, _, rfl, _, _, rfl, rfl, ⟨h0, by omega⟩, _, rfl, p, _, rfl, DPut.k (k := kL) r3 (pen_len _ _ _), ?_⟩
          rw [put_left]
          refine ⟨_, rfl, _, rfl, _, _, rfl, rfl, ⟨by decide, by decide, by decide⟩, _, _, rfl, rfl, .inl ⟨_, rfl, _, rfl, _, _, rfl, rfl, h0, ?_⟩⟩
          exact k _ _ (Int.emod_nonneg _ (by omega)) (Int.emod_lt_of_pos _ h0) (s2.trans (sm_pen r3)) ⟨cells, t + 1, _, upd_same, by rw [upd_ne ncp]; exact r4, q3, by omega, by omega, Int.ediv_nonneg (Int.sub_nonneg_of_le hb2) (by omega)⟩
      · refine ⟨_, rfl, _, rfl, p, _, rfl, dget_some (k := kC) r3 (pen_cells c _ l), c, _, rfl, .inl (SqL.of r4), _, _, rfl, rfl, _, rfl, ?_⟩
        refine ite_next ?_ (fun hN _ => ?_)
        · refine ⟨by decide, fun e2 he2 => ?_⟩
          have s3 : Sb p H (upd H2 e2 (.lst [V.int 2147483629, V.int 2147483647, V.int 2147483587, V.int 2147483563, V.int 2147483579])) := s2.trans (.of (same_new he2))
          have r5 := same_new (o := HO.lst [V.int 2147483629, V.int 2147483647, V.int 2147483587, V.int 2147483563, V.int 2147483579]) he2 _ _ r3
          have r6 := same_new (o := HO.lst [V.int 2147483629, V.int 2147483647, V.int 2147483587, V.int 2147483563, V.int 2147483579]) he2 _ _ r4
          have r7 : (upd H2 e2 (.lst [V.int 2147483629, V.int 2147483647, V.int 2147483587, V.int 2147483563, V.int 2147483579])) e2 = some (.lst [V.int 2147483629, V.int 2147483647, V.int 2147483587, V.int 2147483563, V.int 2147483579]) := upd_same
          generalize upd H2 e2 (.lst [V.int 2147483629, V.int 2147483647, V.int 2147483587, V.int 2147483563, V.int 2147483579]) = H3 at s3 r5 r6 r7 ⊢
          obtain ⟨pr, ep, hp0, hp1⟩ := primes_at (t % 5) (Int.emod_nonneg _ (by decide)) (Int.emod_lt_of_pos _ (by decide))
          obtain ⟨qr, eq, hq0, hq1⟩ := primes_at ((t + 2) % 5) (Int.emod_nonneg _ (by decide)) (Int.emod_lt_of_pos _ (by decide))
          have ht1 : -(2 ^ 64) < t := by omega
          have ht2 : t < 2 ^ 64 := by omega
          refine ⟨_, rfl, _, rfl, .inl ⟨_, rfl, _, _, rfl, rfl, (show (0 : Int) < 5 by decide), e2, _, _, _, rfl, rfl, SqL.of r7, ep, ?_⟩⟩
          refine ⟨_, rfl, .inl ⟨_, rfl, _, rfl, _, _, rfl, rfl, hp0, _, _, rfl, rfl, .inr ⟨by decide, by decide⟩, _, rfl, _, rfl, _, _, rfl, rfl, .inl ⟨by decide, by decide⟩, _, _, rfl, rfl, _, _, rfl, rfl, .inl ⟨ht1, ht2⟩, _, _, rfl, rfl, _, _, rfl, rfl, .inl ⟨_, rfl, _, rfl, _, _, rfl, rfl, hp0, ?_⟩⟩⟩
          refine ⟨_, rfl, _, rfl, _, _, rfl, rfl, _, _, rfl, rfl, .inl (mod_small hp0 hp1), .inl ⟨_, rfl, _, rfl, _, rfl, _, _, rfl, rfl, .inl ⟨_, rfl, _, _, rfl, rfl, (show (0 : Int) < 5 by decide), e2, _, _, _, rfl, rfl, SqL.of r7, eq, _, _, rfl, rfl, hq0, ?_⟩⟩⟩
          refine ⟨_, rfl, _, rfl, _, _, rfl, rfl, .inl (mod_small hq0 hq1), _, rfl, _, _, rfl, rfl, .inl ⟨by decide, by decide⟩, _, _, rfl, rfl, _, rfl, _, _, rfl, rfl, .inl ⟨_, rfl, _, _, rfl, rfl, (show (0 : Int) < 2147483549 by decide), _, _, rfl, rfl, ⟨by decide, by decide⟩, .inl ⟨_, rfl, _, rfl, _, _, rfl, rfl, h0, ?_⟩⟩⟩
          exact k _ _ (Int.emod_nonneg _ (by omega)) (Int.emod_lt_of_pos _ h0) s3 ⟨cells, t + 1, l, r5, r6, q3, by omega, by omega, q6⟩
        · refine ⟨_, rfl, _, rfl, _, _, rfl, rfl, ⟨by decide, by decide, by decide⟩, _, _, rfl, rfl, _, rfl, ?_⟩
          refine ite2 (fun hb => ?_) (fun _ => hN)
          have hb2 := of_decide_eq_true hb
          refine ⟨_, rfl, _, rfl, _, _, rfl, rfl, ⟨by decide, by decide, by decide⟩, _, _, rfl, rfl, _, rfl, _, _, rfl, rfl, ⟨h0, by omega⟩, _, rfl, p, _, rfl, DPut.k (k := kL) r3 (pen_len _ _ _), ?_⟩
          rw [put_left]
          refine ⟨_, rfl, _, rfl, _, _, rfl, rfl, ⟨by decide, by decide, by decide⟩, _, _, rfl, rfl, .inl ⟨_, rfl, _, rfl, _, _, rfl, rfl, h0, ?_⟩⟩
          exact k _ _ (Int.emod_nonneg _ (by omega)) (Int.emod_lt_of_pos _ h0) (s2.trans (sm_pen r3)) ⟨cells, t + 1, _, upd_same, by rw [upd_ne ncp]; exact r4, q3, by omega, by omega, Int.ediv_nonneg (Int.sub_nonneg_of_le hb2) (by omega)⟩
theorem ok__law_pen (A : All K mg cs) : FnOk P w K mg base (L2.CX P w) 1 A.a__law_pen A.d__law_pen p__law_pen (spM true 1 (m__law_pen K)) := (FnOk.calm (ok_pen0 A.F__law_pen ⟨A.b_len, A.b_list, A.b_int, A.b_abs⟩)).imp fun _ _ _ _ => pen_sp
theorem ok__law_draw (A : All K mg cs) : FnOk P w K mg base (L2.CX P w) 1 A.a__law_draw A.d__law_draw p__law_draw (spM true 2 m__law_draw) := (FnOk.calm (ok_draw0 A.F__law_draw ⟨A.b_len, A.b_list, A.b_int, A.b_abs⟩)).imp fun _ _ _ _ => draw_sp
end
end Q
namespace Q
open PySem L2 PySem.Spec PyProof.Rows
section
variable {P : Program} {w : World} {K : PySem.W.Frag} {mg : Str → Option Value} {base : Heap} {cs : Cs}
/-! is_word -/
def b_is_word (K : PySem.W.Frag) (cs : Cs) : Sx :=
    (sRet (xU (xAnd (xF (xB (isiG K) (xCons (xV 0) (xCons (xC (.ty "str")) xNil)))) (xAnd (xF (xCh leG leG (xC (.int 1)) (xF (xB lenG (xCons (xV 0) xNil))) (xC (.int 8)))) (xF (xB allG (xCons (xF (xLc (iA (xV 0)) (gN 1) xYes (xF (xOp (inG false) (xV 1) (xC (.str "abcdefghijklmnopqrstuvwxyz")))) [1])) xNil)))))))
def m_is_word (K : PySem.W.Frag) (cs : Cs) : MF := mk false 2 (b_is_word K cs)
theorem ok_is_word (A : All K mg cs) : FnOk P w K mg base (L2.CX P w) 1 A.a_is_word A.d_is_word p_is_word (spM false 1 (m_is_word K cs)) := by
  refine fnM A.F_is_word sc_is_word (by decide) fun cdv A' outer s H E hr => ?_
  have hu := hu_of hr
  have hu0 := hr.units0
  have hu64 := hr.units
  have hu65 := hr.u65
  exact (pxb_one (pxs_ret (po_U (px_and (px_F (po_b (g_isi K) (fun h => pe_callB (cIsi K) (by rfl) A.b_isinstance (by decide +kernel) h) (pxa_cons (px_var (pv 0)) (pxa_cons (px_C (pe_bltn (v := .ty "str") (by rfl) A.b_str (by decide +kernel) rfl) fun _ _ _ => .ty _) pxa_nil)))) (px_and (px_F (po_ch g_le g_le (fun h1 h2 h3 => pe_chain op_le op_le h1 h2 h3) px_int (px_F (po_b (g_len K) (fun h => pe_callB (cLen K) (by rfl) A.b_len (by decide +kernel) h) (pxa_cons (px_var (pv 0)) pxa_nil))) (px_C (pe_glob (v := .int 8) (by rfl) A.k_MAX_WORD.choose_spec ⟨_, rfl⟩) fun _ _ _ => .int _))) (px_one (px_F (po_b (g_all K) (fun h => pe_callB (kAll K rfl) (by rfl) A.b_all (by decide +kernel) h) (pxa_cons (px_F (po_lc (own := [("letter", 1)]) (is := [1]) rfl sc_is_word.nd (pxi_any (px_var (pv 0))) (blkOk_by (own := [("letter", 1)]) (N := N_is_word) (sc := defScope s_is_word) (by decide +kernel)) (by decide) (fun _ _ _ _ _ => (pxg_name (pg_name (i := 1) sc_is_word.nd rfl (Or.inl rfl)))) (fun _ _ _ _ _ => pxts_nil) (fun _ _ _ _ _ => (px_F (po_2 (g_inG K) (fun h1 h2 => pe_cmpR (op_inX K hu65) h1 h2 rfl) (px_var (pv 1)) (px_C (pe_glob (v := .str "abcdefghijklmnopqrstuvwxyz") (by rfl) A.k_SMALL.choose_spec ⟨_, rfl⟩) fun _ _ _ => .str _)))))) pxa_nil)))))))))
/-! is_list -/
def b_is_list (K : PySem.W.Frag) (cs : Cs) : Sx :=
    (sRet (xU (xF (xB (isiG K) (xCons (xV 0) (xCons (xF (xTup (xCons (xC (.ty "list")) (xCons (xC (.ty "tuple")) xNil)))) xNil))))))
def m_is_list (K : PySem.W.Frag) (cs : Cs) : MF := mk false 1 (b_is_list K cs)
theorem ok_is_list (A : All K mg cs) : FnOk P w K mg base (L2.CX P w) 1 A.a_is_list A.d_is_list p_is_list (spM false 1 (m_is_list K cs)) := by
  refine fnM A.F_is_list sc_is_list (by decide) fun cdv A' outer s H E hr => ?_
  have hu := hu_of hr
  have hu0 := hr.units0
  have hu64 := hr.units
  have hu65 := hr.u65
  exact (pxb_one (pxs_ret (po_U (px_F (po_b (g_isi K) (fun h => pe_callB (cIsi K) (by rfl) A.b_isinstance (by decide +kernel) h) (pxa_cons (px_var (pv 0)) (pxa_cons (px_F (po_tup (pxa_cons (px_C (pe_bltn (v := .ty "list") (by rfl) A.b_list (by decide +kernel) rfl) fun _ _ _ => .ty _) (pxa_cons (px_C (pe_bltn (v := .ty "tuple") (by rfl) A.b_tuple (by decide +kernel) rfl) fun _ _ _ => .ty _) pxa_nil)))) pxa_nil)))))))
/-! are_different -/
def b_are_different (K : PySem.W.Frag) (cs : Cs) : Sx :=
    (sSeq (sSet 1 (xB listG (xCons (xV 0) xNil)))
    (sRet (xU (xNot (xF (xB anyG (xCons (xF (xLc (iEn (xCons (xV 1) xNil)) (gT 2 (gsC (gN 2) (gsC (gN 3) gsN))) xYes (xF (xOp (inG false) (xV 3) (xF (xSl (xV 1) pNo (pSo (xV 2)))))) [2, 3])) xNil)))))))
def m_are_different (K : PySem.W.Frag) (cs : Cs) : MF := mk false 4 (b_are_different K cs)
theorem ok_are_different (A : All K mg cs) : FnOk P w K mg base (L2.CX P w) 1 A.a_are_different A.d_are_different p_are_different (spM false 1 (m_are_different K cs)) := by
  refine fnM A.F_are_different sc_are_different (by decide) fun cdv A' outer s H E hr => ?_
  have hu := hu_of hr
  have hu0 := hr.units0
  have hu64 := hr.units
  have hu65 := hr.u65
  exact (pxb_cons (pxs_set (fun h => ps_set (i := 1) sc_are_different.nd rfl (Or.inr rfl) h) (po_b (g_list K) (fun h => pe_callTy (kList K) (by rfl) A.b_list (by decide +kernel) h) (pxa_cons (px_var (pv 0)) pxa_nil)))
      (pxb_one (pxs_ret (po_U (px_not (px_F (po_b (g_any K) (fun h => pe_callB (kAny K rfl) (by rfl) A.b_any (by decide +kernel) h) (pxa_cons (px_F (po_lc (own := [("place", 2), ("item", 3)]) (is := [2, 3]) rfl sc_are_different.nd (pxi_en (fun h => pi_enum (by rfl) A.b_enumerate h) (pxa_cons (px_var (pv 1)) pxa_nil)) (blkOk_by (own := [("place", 2), ("item", 3)]) (N := N_are_different) (sc := defScope s_are_different) (by decide +kernel)) (by decide) (fun _ _ _ _ _ => (pxg_tup rfl (pxgs_cons (pxg_name (pg_name (i := 2) sc_are_different.nd rfl (Or.inl rfl))) (pxgs_cons (pxg_name (pg_name (i := 3) sc_are_different.nd rfl (Or.inl rfl))) pxgs_nil)))) (fun _ _ _ _ _ => pxts_nil) (fun _ _ _ _ _ => (px_F (po_2 (g_inG K) (fun h1 h2 => pe_cmpR (op_inX K hu65) h1 h2 rfl) (px_var (pv 3)) (px_F (po_sl K (fun h1 h2 h3 => pe_slice (slA K) h1 h2 h3) (px_var (pv 1)) pxp_no (pxp_so (px_var (pv 2)))))))))) pxa_nil))))))))
/-! is_mark_column -/
def b_is_mark_column (K : PySem.W.Frag) (cs : Cs) : Sx :=
    (sSeq (sIf (xOrT (xNotT (xT (xF (xB (isiG K) (xCons (xV 0) (xCons (xC (.ty "tuple")) xNil)))))) (xOrT (xTO (xOp neG (xF (xB lenG (xCons (xV 0) xNil))) (xC (.int 2)))) (xOrT (xNotT (xT (xF (xP 1 (m_is_word K cs) (xCons (xF (xOp ixD (xV 0) (xC (.int 0)))) xNil))))) (xNotT (xT (xF (xP 1 (m_is_list K cs) (xCons (xF (xOp ixD (xV 0) (xC (.int 1)))) xNil)))))))) (sRet (xU (xC (.bl false)))) sNx)
    (sSeq (sSet 1 (xOp ixD (xV 0) (xC (.int 1))))
    (sRet (xU (xAnd (xF (xCh leG leG (xC (.int 2)) (xF (xB lenG (xCons (xV 1) xNil))) (xC (.int 3)))) (xAnd (xF (xB allG (xCons (xF (xLc (iA (xV 1)) (gN 2) xYes (xF (xP 1 (m_is_word K cs) (xCons (xV 2) xNil))) [2])) xNil))) (xF (xP 1 (m_are_different K cs) (xCons (xV 1) xNil)))))))))
def m_is_mark_column (K : PySem.W.Frag) (cs : Cs) : MF := mk false 3 (b_is_mark_column K cs)
theorem ok_is_mark_column (A : All K mg cs) : FnOk P w K mg base (L2.CX P w) 2 A.a_is_mark_column A.d_is_mark_column p_is_mark_column (spM false 1 (m_is_mark_column K cs)) := by
  refine fnM A.F_is_mark_column sc_is_mark_column (by decide) fun cdv A' outer s H E hr => ?_
  have hu := hu_of hr
  have hu0 := hr.units0
  have hu64 := hr.units
  have hu65 := hr.u65
  exact (pxb_cons (pxs_if (pxw_t (pxw_or (pxt_not (pxt_val (px_F (po_b (g_isi K) (fun h => pe_callB (cIsi K) (by rfl) A.b_isinstance (by decide +kernel) h) (pxa_cons (px_var (pv 0)) (pxa_cons (px_C (pe_bltn (v := .ty "tuple") (by rfl) A.b_tuple (by decide +kernel) rfl) fun _ _ _ => .ty _) pxa_nil)))))) (pxw_or (pxt_2 (g_ne K) (fun h1 h2 => pt_cmpR (kNeD K hu64) h1 h2 (nomark _)) (px_F (po_b (g_len K) (fun h => pe_callB (cLen K) (by rfl) A.b_len (by decide +kernel) h) (pxa_cons (px_var (pv 0)) pxa_nil))) px_int) (pxw_or (pxt_not (pxt_val (px_F (po_P (call_sp (ok_is_word A) (hr.mono (by decide)) rfl A.D_is_word.m A.D_is_word.k A.D_is_word.b) (pxa_cons (px_F (po_2 (g_ix K) (fun h1 h2 => pe_ix (ixA K) h1 h2 (fun _ _ => rfl)) (px_var (pv 0)) px_int)) pxa_nil))))) (pxw_or1 (pxt_not (pxt_val (px_F (po_P (call_sp (ok_is_list A) (hr.mono (by decide)) rfl A.D_is_list.m A.D_is_list.k A.D_is_list.b) (pxa_cons (px_F (po_2 (g_ix K) (fun h1 h2 => pe_ix (ixA K) h1 h2 (fun _ _ => rfl)) (px_var (pv 0)) px_int)) pxa_nil)))))))))) (pxb_one (pxs_ret (po_U px_bl))) pxb_nil)
      (pxb_cons (pxs_set (fun h => ps_set (i := 1) sc_is_mark_column.nd rfl (Or.inl rfl) h) (po_2 (g_ix K) (fun h1 h2 => pe_ix (ixA K) h1 h2 (fun _ _ => rfl)) (px_var (pv 0)) px_int))
      (pxb_one (pxs_ret (po_U (px_and (px_F (po_ch g_le g_le (fun h1 h2 h3 => pe_chain op_le op_le h1 h2 h3) px_int (px_F (po_b (g_len K) (fun h => pe_callB (cLen K) (by rfl) A.b_len (by decide +kernel) h) (pxa_cons (px_var (pv 1)) pxa_nil))) (px_C (pe_glob (v := .int 3) (by rfl) A.k_MAX_MARKS.choose_spec ⟨_, rfl⟩) fun _ _ _ => .int _))) (px_and (px_F (po_b (g_all K) (fun h => pe_callB (kAll K rfl) (by rfl) A.b_all (by decide +kernel) h) (pxa_cons (px_F (po_lc (own := [("mark", 2)]) (is := [2]) rfl sc_is_mark_column.nd (pxi_any (px_var (pv 1))) (blkOk_by (own := [("mark", 2)]) (N := N_is_mark_column) (sc := defScope s_is_mark_column) (by decide +kernel)) (by decide) (fun _ _ _ _ _ => (pxg_name (pg_name (i := 2) sc_is_mark_column.nd rfl (Or.inl rfl)))) (fun _ _ _ _ _ => pxts_nil) (fun _ _ _ _ _ => (px_F (po_P (call_sp (ok_is_word A) (hr.mono (by decide)) rfl A.D_is_word.m A.D_is_word.k A.D_is_word.b) (pxa_cons (px_var (pv 2)) pxa_nil)))))) pxa_nil))) (px_one (px_F (po_P (call_sp (ok_are_different A) (hr.mono (by decide)) rfl A.D_are_different.m A.D_are_different.k A.D_are_different.b) (pxa_cons (px_var (pv 1)) pxa_nil)))))))))))
/-! Table.__init__ -/
def b_Table___init__ (K : PySem.W.Frag) (cs : Cs) : Sx :=
    (sSeq (sIf (xNotT (xT (xF (xP 1 (m_is_word K cs) (xCons (xV 1) xNil))))) sNever sNx)
    (sSeq (sIf (xOrT (xNotT (xTO (xCh leG leG (xC (.int 1)) (xF (xB lenG (xCons (xV 2) xNil))) (xC (.int 3))))) (xNotT (xT (xF (xB allG (xCons (xF (xLc (iA (xV 2)) (gN 4) xYes (xOr (xF (xP 1 (m_is_word K cs) (xCons (xV 4) xNil))) (xF (xP 1 (m_is_mark_column K cs) (xCons (xV 4) xNil)))) [4])) xNil)))))) sNever sNx)
    (sSeq (sSet 3 (xLc (iA (xV 2)) (gN 4) xYes (xF (xIfO (xT (xF (xB (isiG K) (xCons (xV 4) (xCons (xC (.ty "str")) xNil))))) (xU (xV 4)) (xOp ixD (xV 4) (xC (.int 0))))) [4]))
    (sSeq (sIf (xNotT (xT (xF (xP 1 (m_are_different K cs) (xCons (xV 3) xNil))))) sNever sNx)
    (sSeq (sFldI K 0 "own_name" (xU (xV 1)))
    (sSeq (sFldI K 0 "own_columns" (xB tupG (xCons (xV 3) xNil)))
    (sSeq (sFldI K 0 "own_marks" (xDc false (iA (xV 2)) (gN 4) (xT (xF (xB (isiG K) (xCons (xV 4) (xCons (xC (.ty "tuple")) xNil))))) (xF (xOp ixD (xV 4) (xC (.int 0)))) (xF (xB tupG (xCons (xF (xOp ixD (xV 4) (xC (.int 1)))) xNil))) [4]))
    (sFldI K 0 "own_positions" (xDc false (iEn (xCons (xV 3) xNil)) (gT 2 (gsC (gN 5) (gsC (gN 6) gsN))) xYes (xV 6) (xV 5) [5, 6])))))))))
def i_Table___init__ (K : PySem.W.Frag) (cs : Cs) : MI := iStar 1 (mkI cs.Table false 7 (b_Table___init__ K cs))
theorem ok_Table___init__ (A : All K mg cs) : ∀ np, FnR P w K mg base (L2.CX P w) 3 A.a_Table___init__ (spI cs.Table false np (i_Table___init__ K cs)) := by
  refine fnIS (ps := p_Table___init__.dropLast) (pv := "columns") A.F_Table___init__ sc_Table___init__ rfl (by decide) (fun kV doc pm an cdv ct => StX.bind_star2 (B := fun us => bindArgs (PySem.W.fnOf "__init__" "Table.__init__" (defArgs s_Table___init__) (defBody s_Table___init__) (defScope s_Table___init__) .none kV doc pm an cdv ct) ⟨us, []⟩) (fun a b => rfl) (fun a b r rs => rfl)) fun cdv A' outer s H E hr => ?_
  have hu := hu_of hr
  have hu0 := hr.units0
  have hu64 := hr.units
  have hu65 := hr.u65
  exact (pxb_cons (pxs_if (pxt_not (pxt_val (px_F (po_P (call_sp (ok_is_word A) (hr.mono (by decide)) rfl A.D_is_word.m A.D_is_word.k A.D_is_word.b) (pxa_cons (px_var (pv 1)) pxa_nil))))) (pxb_one pxs_never) pxb_nil)
      (pxb_cons (pxs_if (pxw_t (pxw_or (pxt_not (pxt_ch g_le g_le (fun h1 h2 h3 => pt_chain op_le op_le h1 h2 h3) px_int (px_F (po_b (g_len K) (fun h => pe_callB (cLen K) (by rfl) A.b_len (by decide +kernel) h) (pxa_cons (px_var (pv 2)) pxa_nil))) (px_C (pe_glob (v := .int 3) (by rfl) A.k_MAX_COLUMNS.choose_spec ⟨_, rfl⟩) fun _ _ _ => .int _))) (pxw_or1 (pxt_not (pxt_val (px_F (po_b (g_all K) (fun h => pe_callB (kAll K rfl) (by rfl) A.b_all (by decide +kernel) h) (pxa_cons (px_F (po_lc (own := [("one", 4)]) (is := [4]) rfl sc_Table___init__.nd (pxi_any (px_var (pv 2))) (blkOk_by (own := [("one", 4)]) (N := N_Table___init__) (sc := defScope s_Table___init__) (by decide +kernel)) (by decide) (fun _ _ _ _ _ => (pxg_name (pg_name (i := 4) sc_Table___init__.nd rfl (Or.inl rfl)))) (fun _ _ _ _ _ => pxts_nil) (fun _ _ _ _ _ => (px_or (px_F (po_P (call_sp (ok_is_word A) (hr.mono (by decide)) rfl A.D_is_word.m A.D_is_word.k A.D_is_word.b) (pxa_cons (px_var (pv 4)) pxa_nil))) (px_one (px_F (po_P (call_sp (ok_is_mark_column A) (hr.mono (by decide)) rfl A.D_is_mark_column.m A.D_is_mark_column.k A.D_is_mark_column.b) (pxa_cons (px_var (pv 4)) pxa_nil)))))))) pxa_nil)))))))) (pxb_one pxs_never) pxb_nil)
      (pxb_cons (pxs_setLc (elt := .Name "" ⟨0, 0, 0, 0⟩) (ifs := []) (is := [4]) (by decide) (pxi_any (px_var (pv 2))) (fun c h => ps_setLc (own := [("one", 4)]) rfl sc_Table___init__.nd rfl rfl (sw_true rfl rfl rfl (by decide +kernel)) h (blkOk_by (own := [("one", 4)]) (N := N_Table___init__) (sc := defScope s_Table___init__) (by decide +kernel)) (fun _ _ _ _ _ => pg_any c (pxg_name (pg_name (i := 4) sc_Table___init__.nd rfl (Or.inl rfl)))) (fun _ _ _ _ _ => pts_any c pxts_nil) (fun _ _ _ _ _ => pe_any c (px_F (po_if (pxt_val (px_F (po_b (g_isi K) (fun h => pe_callB (cIsi K) (by rfl) A.b_isinstance (by decide +kernel) h) (pxa_cons (px_var (pv 4)) (pxa_cons (px_C (pe_bltn (v := .ty "str") (by rfl) A.b_str (by decide +kernel) rfl) fun _ _ _ => .ty _) pxa_nil))))) (po_U (px_var (pv 4))) (po_2 (g_ix K) (fun h1 h2 => pe_ix (ixA K) h1 h2 (fun _ _ => rfl)) (px_var (pv 4)) px_int))))))
      (pxb_cons (pxs_if (pxt_not (pxt_val (px_F (po_P (call_sp (ok_are_different A) (hr.mono (by decide)) rfl A.D_are_different.m A.D_are_different.k A.D_are_different.b) (pxa_cons (px_var (pv 3)) pxa_nil))))) (pxb_one pxs_never) pxb_nil)
      (pxb_cons (pxs_fldI (K := K) (fun h => ps_fld (pv 0) h rfl) (po_U (px_var (pv 1))))
      (pxb_cons (pxs_fldI (K := K) (fun h => ps_fld (pv 0) h rfl) (po_b (g_tup K) (fun h => pe_callTy (cTuple K rfl) (by rfl) A.b_tuple (by decide +kernel) h) (pxa_cons (px_var (pv 3)) pxa_nil)))
      (pxb_cons (pxs_fldI (K := K) (fun h => ps_fld (pv 0) h rfl) (po_dc (t := false) (own := [("one", 4)]) (is := [4]) hu0 rfl sc_Table___init__.nd (pxi_any (px_var (pv 2))) (blkOk_by (own := [("one", 4)]) (N := N_Table___init__) (sc := defScope s_Table___init__) (by decide +kernel)) (by decide) (fun _ _ _ _ _ => (pxg_name (pg_name (i := 4) sc_Table___init__.nd rfl (Or.inl rfl)))) (fun _ _ _ _ _ => (pxts_one (pxt_val (px_F (po_b (g_isi K) (fun h => pe_callB (cIsi K) (by rfl) A.b_isinstance (by decide +kernel) h) (pxa_cons (px_var (pv 4)) (pxa_cons (px_C (pe_bltn (v := .ty "tuple") (by rfl) A.b_tuple (by decide +kernel) rfl) fun _ _ _ => .ty _) pxa_nil))))))) (fun _ _ _ _ _ => (px_F (po_2 (g_ix K) (fun h1 h2 => pe_ix (ixA K) h1 h2 (fun _ _ => rfl)) (px_var (pv 4)) px_int))) (fun _ _ _ _ _ => (px_F (po_b (g_tup K) (fun h => pe_callTy (cTuple K rfl) (by rfl) A.b_tuple (by decide +kernel) h) (pxa_cons (px_F (po_2 (g_ix K) (fun h1 h2 => pe_ix (ixA K) h1 h2 (fun _ _ => rfl)) (px_var (pv 4)) px_int)) pxa_nil))))))
      (pxb_one (pxs_fldI (K := K) (fun h => ps_fld (pv 0) h rfl) (po_dc (t := false) (own := [("position", 5), ("word", 6)]) (is := [5, 6]) hu0 rfl sc_Table___init__.nd (pxi_en (fun h => pi_enum (by rfl) A.b_enumerate h) (pxa_cons (px_var (pv 3)) pxa_nil)) (blkOk_by (own := [("position", 5), ("word", 6)]) (N := N_Table___init__) (sc := defScope s_Table___init__) (by decide +kernel)) (by decide) (fun _ _ _ _ _ => (pxg_tup rfl (pxgs_cons (pxg_name (pg_name (i := 5) sc_Table___init__.nd rfl (Or.inl rfl))) (pxgs_cons (pxg_name (pg_name (i := 6) sc_Table___init__.nd rfl (Or.inl rfl))) pxgs_nil)))) (fun _ _ _ _ _ => pxts_nil) (fun _ _ _ _ _ => (px_var (pv 6))) (fun _ _ _ _ _ => (px_var (pv 5)))))))))))))
/-! Table.name -/
def b_Table_name (K : PySem.W.Frag) (cs : Cs) : Sx :=
    (sRet (xU (xF (xUn (fldG K "own_name") (xV 0)))))
def m_Table_name (K : PySem.W.Frag) (cs : Cs) : MF := mk false 1 (b_Table_name K cs)
theorem ok_Table_name (A : All K mg cs) : FnOk P w K mg base (L2.CX P w) 1 A.a_Table_name A.d_Table_name p_Table_name (spM false 1 (m_Table_name K cs)) := by
  refine fnM A.F_Table_name sc_Table_name (by decide) fun cdv A' outer s H E hr => ?_
  have hu := hu_of hr
  have hu0 := hr.units0
  have hu64 := hr.units
  have hu65 := hr.u65
  exact (pxb_one (pxs_ret (po_U (px_F (po_1 (g_fld K "own_name") (fun h => kFld K h rfl) (px_var (pv 0)))))))
/-! Table.is_row -/
def b_Table_is_row (K : PySem.W.Frag) (cs : Cs) : Sx :=
    (sSeq (sIf (xOrT (xNotT (xT (xF (xB (isiG K) (xCons (xV 1) (xCons (xC (.ty "tuple")) xNil)))))) (xTO (xOp neG (xF (xB lenG (xCons (xV 1) xNil))) (xF (xB lenG (xCons (xF (xUn (fldG K "own_columns") (xV 0))) xNil)))))) (sRet (xU (xC (.bl false)))) sNx)
    (sSeq (sFor (iZp (xCons (xF (xUn (fldG K "own_columns") (xV 0))) (xCons (xV 1) xNil))) (gT 2 (gsC (gN 2) (gsC (gN 3) gsN))) (sIf (xOrT (xNotT (xT (xF (xP 1 (m_is_word K cs) (xCons (xV 3) xNil))))) (xAndT (xTO (xOp (inG false) (xV 2) (xF (xUn (fldG K "own_marks") (xV 0))))) (xTO (xOp (inG true) (xV 3) (xF (xOp dgG (xF (xUn (fldG K "own_marks") (xV 0))) (xV 2))))))) (sRet (xU (xC (.bl false)))) sNx))
    (sRet (xU (xC (.bl true))))))
def m_Table_is_row (K : PySem.W.Frag) (cs : Cs) : MF := mk false 4 (b_Table_is_row K cs)
theorem ok_Table_is_row (A : All K mg cs) : FnOk P w K mg base (L2.CX P w) 2 A.a_Table_is_row A.d_Table_is_row p_Table_is_row (spM false 2 (m_Table_is_row K cs)) := by
  refine fnM A.F_Table_is_row sc_Table_is_row (by decide) fun cdv A' outer s H E hr => ?_
  have hu := hu_of hr
  have hu0 := hr.units0
  have hu64 := hr.units
  have hu65 := hr.u65
  exact (pxb_cons (pxs_if (pxw_t (pxw_or (pxt_not (pxt_val (px_F (po_b (g_isi K) (fun h => pe_callB (cIsi K) (by rfl) A.b_isinstance (by decide +kernel) h) (pxa_cons (px_var (pv 1)) (pxa_cons (px_C (pe_bltn (v := .ty "tuple") (by rfl) A.b_tuple (by decide +kernel) rfl) fun _ _ _ => .ty _) pxa_nil)))))) (pxw_or1 (pxt_2 (g_ne K) (fun h1 h2 => pt_cmpR (kNeD K hu64) h1 h2 (nomark _)) (px_F (po_b (g_len K) (fun h => pe_callB (cLen K) (by rfl) A.b_len (by decide +kernel) h) (pxa_cons (px_var (pv 1)) pxa_nil))) (px_F (po_b (g_len K) (fun h => pe_callB (cLen K) (by rfl) A.b_len (by decide +kernel) h) (pxa_cons (px_F (po_1 (g_fld K "own_columns") (fun h => kFld K h rfl) (px_var (pv 0)))) pxa_nil))))))) (pxb_one (pxs_ret (po_U px_bl))) pxb_nil)
      (pxb_cons (pxs_for (fun h1 h2 h3 => ps_for (passes_of rfl) rfl h1 h2 h3) (pxi_zp (fun h => RZ.pi_zipA (by rfl) A.b_zip h) (pxa_cons (px_F (po_1 (g_fld K "own_columns") (fun h => kFld K h rfl) (px_var (pv 0)))) (pxa_cons (px_var (pv 1)) pxa_nil))) (pxg_tup rfl (pxgs_cons (pxg_name (pg_name (i := 2) sc_Table_is_row.nd rfl (Or.inl rfl))) (pxgs_cons (pxg_name (pg_name (i := 3) sc_Table_is_row.nd rfl (Or.inl rfl))) pxgs_nil))) (pxb_one (pxs_if (pxw_t (pxw_or (pxt_not (pxt_val (px_F (po_P (call_sp (ok_is_word A) (hr.mono (by decide)) rfl A.D_is_word.m A.D_is_word.k A.D_is_word.b) (pxa_cons (px_var (pv 3)) pxa_nil))))) (pxw_or1 (pxw_t (pxw_and (pxt_2 (g_inG K) (fun h1 h2 => pt_cmpR (op_inX K hu65) h1 h2 rfl) (px_var (pv 2)) (px_F (po_1 (g_fld K "own_marks") (fun h => kFld K h rfl) (px_var (pv 0))))) (pxw_and1 (pxt_2 (g_notInG K) (fun h1 h2 => pt_cmpR (op_notInX K hu65) h1 h2 rfl) (px_var (pv 3)) (px_F (po_2 g_dg (fun h1 h2 => pe_dget hu h1 h2 (fun _ _ => rfl)) (px_F (po_1 (g_fld K "own_marks") (fun h => kFld K h rfl) (px_var (pv 0)))) (px_var (pv 2))))))))))) (pxb_one (pxs_ret (po_U px_bl))) pxb_nil)))
      (pxb_one (pxs_ret (po_U px_bl)))))
def mt_is_row (K : PySem.W.Frag) (cs : Cs) : MT := fun C => if C = cs.Table then some (false, 2, m_Table_is_row K cs) else none
theorem mtok_is_row {X : Cx} (A : All X.K X.mg cs) (hr : Room 2 X.A) : MtOk X "is_row" (mt_is_row X.K cs) := by
  intro C z h
  unfold mt_is_row at h
  split at h
  · rename_i e
    cases h
    subst e
    exact cand_of A.cl_Table A.M_Table_is_row (ok_Table_is_row A) A.B_Table_is_row (hr.mono (by decide))
  cases h
/-! Schema.__init__ -/
def b_Schema___init__ (K : PySem.W.Frag) (cs : Cs) : Sx :=
    (sSeq (sIf (xOrT (xNotT (xTO (xCh leG leG (xC (.int 1)) (xF (xB lenG (xCons (xV 1) xNil))) (xC (.int 4))))) (xNotT (xT (xF (xB allG (xCons (xF (xLc (iA (xV 1)) (gN 2) xYes (xF (xB (isiG K) (xCons (xV 2) (xCons (xC (.cls cs.Table)) xNil)))) [2])) xNil)))))) sNever sNx)
    (sSeq (sIf (xNotT (xT (xF (xP 1 (m_are_different K cs) (xCons (xF (xLc (iA (xV 1)) (gN 2) xYes (xF (xPr cs.Table (false, 1, m_Table_name K cs) "name" (xV 2))) [2])) xNil))))) sNever sNx)
    (sFldI K 0 "own_tables" (xDc false (iA (xV 1)) (gN 2) xYes (xF (xPr cs.Table (false, 1, m_Table_name K cs) "name" (xV 2))) (xV 2) [2]))))
def i_Schema___init__ (K : PySem.W.Frag) (cs : Cs) : MI := iStar 0 (mkI cs.Schema false 3 (b_Schema___init__ K cs))
theorem ok_Schema___init__ (A : All K mg cs) : ∀ np, FnR P w K mg base (L2.CX P w) 3 A.a_Schema___init__ (spI cs.Schema false np (i_Schema___init__ K cs)) := by
  refine fnIS (ps := p_Schema___init__.dropLast) (pv := "tables") A.F_Schema___init__ sc_Schema___init__ rfl (by decide) (fun kV doc pm an cdv ct => StX.bind_star1 (B := fun us => bindArgs (PySem.W.fnOf "__init__" "Schema.__init__" (defArgs s_Schema___init__) (defBody s_Schema___init__) (defScope s_Schema___init__) .none kV doc pm an cdv ct) ⟨us, []⟩) (fun a => rfl) (fun a r rs => rfl)) fun cdv A' outer s H E hr => ?_
  have hu := hu_of hr
  have hu0 := hr.units0
  have hu64 := hr.units
  have hu65 := hr.u65
  exact (pxb_cons (pxs_if (pxw_t (pxw_or (pxt_not (pxt_ch g_le g_le (fun h1 h2 h3 => pt_chain op_le op_le h1 h2 h3) px_int (px_F (po_b (g_len K) (fun h => pe_callB (cLen K) (by rfl) A.b_len (by decide +kernel) h) (pxa_cons (px_var (pv 1)) pxa_nil))) (px_C (pe_glob (v := .int 4) (by rfl) A.k_MAX_TABLES.choose_spec ⟨_, rfl⟩) fun _ _ _ => .int _))) (pxw_or1 (pxt_not (pxt_val (px_F (po_b (g_all K) (fun h => pe_callB (kAll K rfl) (by rfl) A.b_all (by decide +kernel) h) (pxa_cons (px_F (po_lc (own := [("table", 2)]) (is := [2]) rfl sc_Schema___init__.nd (pxi_any (px_var (pv 1))) (blkOk_by (own := [("table", 2)]) (N := N_Schema___init__) (sc := defScope s_Schema___init__) (by decide +kernel)) (by decide) (fun _ _ _ _ _ => (pxg_name (pg_name (i := 2) sc_Schema___init__.nd rfl (Or.inl rfl)))) (fun _ _ _ _ _ => pxts_nil) (fun _ _ _ _ _ => (px_F (po_b (g_isi K) (fun h => pe_callB (cIsi K) (by rfl) A.b_isinstance (by decide +kernel) h) (pxa_cons (px_var (pv 2)) (pxa_cons (px_C (pe_glob (v := .ref cs.Table) (by rfl) A.g_Table rfl) fun _ _ _ => .cls _) pxa_nil))))))) pxa_nil)))))))) (pxb_one pxs_never) pxb_nil)
      (pxb_cons (pxs_if (pxt_not (pxt_val (px_F (po_P (call_sp (ok_are_different A) (hr.mono (by decide)) rfl A.D_are_different.m A.D_are_different.k A.D_are_different.b) (pxa_cons (px_F (po_lc (own := [("table", 2)]) (is := [2]) rfl sc_Schema___init__.nd (pxi_any (px_var (pv 1))) (blkOk_by (own := [("table", 2)]) (N := N_Schema___init__) (sc := defScope s_Schema___init__) (by decide +kernel)) (by decide) (fun _ _ _ _ _ => (pxg_name (pg_name (i := 2) sc_Schema___init__.nd rfl (Or.inl rfl)))) (fun _ _ _ _ _ => pxts_nil) (fun _ _ _ _ _ => (px_F (po_pr (fun h => pe_prop h A.cl_Table A.P_Table_name (ok_Table_name A) (hr.mono (by decide)) A.B_Table_name .nil passL rfl) (px_var (pv 2))))))) pxa_nil))))) (pxb_one pxs_never) pxb_nil)
      (pxb_one (pxs_fldI (K := K) (fun h => ps_fld (pv 0) h rfl) (po_dc (t := false) (own := [("table", 2)]) (is := [2]) hu0 rfl sc_Schema___init__.nd (pxi_any (px_var (pv 1))) (blkOk_by (own := [("table", 2)]) (N := N_Schema___init__) (sc := defScope s_Schema___init__) (by decide +kernel)) (by decide) (fun _ _ _ _ _ => (pxg_name (pg_name (i := 2) sc_Schema___init__.nd rfl (Or.inl rfl)))) (fun _ _ _ _ _ => pxts_nil) (fun _ _ _ _ _ => (px_F (po_pr (fun h => pe_prop h A.cl_Table A.P_Table_name (ok_Table_name A) (hr.mono (by decide)) A.B_Table_name .nil passL rfl) (px_var (pv 2))))) (fun _ _ _ _ _ => (px_var (pv 2))))))))
/-! Schema.names -/
def b_Schema_names (K : PySem.W.Frag) (cs : Cs) : Sx :=
    (sRet (xU (xF (xB tupG (xCons (xF (xUn (fldG K "own_tables") (xV 0))) xNil)))))
def m_Schema_names (K : PySem.W.Frag) (cs : Cs) : MF := mk false 1 (b_Schema_names K cs)
theorem ok_Schema_names (A : All K mg cs) : FnOk P w K mg base (L2.CX P w) 1 A.a_Schema_names A.d_Schema_names p_Schema_names (spM false 1 (m_Schema_names K cs)) := by
  refine fnM A.F_Schema_names sc_Schema_names (by decide) fun cdv A' outer s H E hr => ?_
  have hu := hu_of hr
  have hu0 := hr.units0
  have hu64 := hr.units
  have hu65 := hr.u65
  exact (pxb_one (pxs_ret (po_U (px_F (po_b (g_tup K) (fun h => pe_callTy (cTuple K rfl) (by rfl) A.b_tuple (by decide +kernel) h) (pxa_cons (px_F (po_1 (g_fld K "own_tables") (fun h => kFld K h rfl) (px_var (pv 0)))) pxa_nil))))))
/-! Schema.__contains__ -/
def b_Schema___contains__ (K : PySem.W.Frag) (cs : Cs) : Sx :=
    (sRet (xU (xAnd (xF (xB (isiG K) (xCons (xV 1) (xCons (xC (.ty "str")) xNil)))) (xF (xOp (inG false) (xV 1) (xF (xUn (fldG K "own_tables") (xV 0))))))))
def m_Schema___contains__ (K : PySem.W.Frag) (cs : Cs) : MF := mk false 2 (b_Schema___contains__ K cs)
theorem ok_Schema___contains__ (A : All K mg cs) : FnOk P w K mg base (L2.CX P w) 1 A.a_Schema___contains__ A.d_Schema___contains__ p_Schema___contains__ (spM false 2 (m_Schema___contains__ K cs)) := by
  refine fnM A.F_Schema___contains__ sc_Schema___contains__ (by decide) fun cdv A' outer s H E hr => ?_
  have hu := hu_of hr
  have hu0 := hr.units0
  have hu64 := hr.units
  have hu65 := hr.u65
  exact (pxb_one (pxs_ret (po_U (px_and (px_F (po_b (g_isi K) (fun h => pe_callB (cIsi K) (by rfl) A.b_isinstance (by decide +kernel) h) (pxa_cons (px_var (pv 1)) (pxa_cons (px_C (pe_bltn (v := .ty "str") (by rfl) A.b_str (by decide +kernel) rfl) fun _ _ _ => .ty _) pxa_nil)))) (px_one (px_F (po_2 (g_inG K) (fun h1 h2 => pe_cmpR (op_inX K hu65) h1 h2 rfl) (px_var (pv 1)) (px_F (po_1 (g_fld K "own_tables") (fun h => kFld K h rfl) (px_var (pv 0)))))))))))
def mt___contains__ (K : PySem.W.Frag) (cs : Cs) : MT := fun C => if C = cs.Schema then some (false, 2, m_Schema___contains__ K cs) else none
theorem sg___contains__ {X : Cx} (A : All X.K X.mg cs) (hr : Room 1 X.A) : Sgns X "__contains__" (mt___contains__ X.K cs) 0 := by
  intro C z h
  unfold mt___contains__ at h
  split at h
  · rename_i e
    cases h
    subst e
    exact ⟨⟨_, _, _, _, ⟨A.M_Schema___contains__.at_, A.M_Schema___contains__.fn⟩, ok_Schema___contains__ A, hr.mono (by decide), A.B_Schema___contains__⟩⟩
  cases h
/-! Schema.__getitem__ -/
def b_Schema___getitem__ (K : PySem.W.Frag) (cs : Cs) : Sx :=
    (sSeq (sIf (xOrT (xNotT (xT (xF (xB (isiG K) (xCons (xV 1) (xCons (xC (.ty "str")) xNil)))))) (xTO (xOp (inG true) (xV 1) (xF (xUn (fldG K "own_tables") (xV 0)))))) sNever sNx)
    (sRet (xU (xF (xOp dgG (xF (xUn (fldG K "own_tables") (xV 0))) (xV 1))))))
def m_Schema___getitem__ (K : PySem.W.Frag) (cs : Cs) : MF := mk false 2 (b_Schema___getitem__ K cs)
theorem ok_Schema___getitem__ (A : All K mg cs) : FnOk P w K mg base (L2.CX P w) 1 A.a_Schema___getitem__ A.d_Schema___getitem__ p_Schema___getitem__ (spM false 2 (m_Schema___getitem__ K cs)) := by
  refine fnM A.F_Schema___getitem__ sc_Schema___getitem__ (by decide) fun cdv A' outer s H E hr => ?_
  have hu := hu_of hr
  have hu0 := hr.units0
  have hu64 := hr.units
  have hu65 := hr.u65
  exact (pxb_cons (pxs_if (pxw_t (pxw_or (pxt_not (pxt_val (px_F (po_b (g_isi K) (fun h => pe_callB (cIsi K) (by rfl) A.b_isinstance (by decide +kernel) h) (pxa_cons (px_var (pv 1)) (pxa_cons (px_C (pe_bltn (v := .ty "str") (by rfl) A.b_str (by decide +kernel) rfl) fun _ _ _ => .ty _) pxa_nil)))))) (pxw_or1 (pxt_2 (g_notInG K) (fun h1 h2 => pt_cmpR (op_notInX K hu65) h1 h2 rfl) (px_var (pv 1)) (px_F (po_1 (g_fld K "own_tables") (fun h => kFld K h rfl) (px_var (pv 0)))))))) (pxb_one pxs_never) pxb_nil)
      (pxb_one (pxs_ret (po_U (px_F (po_2 g_dg (fun h1 h2 => pe_dget hu h1 h2 (fun _ _ => rfl)) (px_F (po_1 (g_fld K "own_tables") (fun h => kFld K h rfl) (px_var (pv 0)))) (px_var (pv 1))))))))
/-! fits -/
def b_fits (K : PySem.W.Frag) (cs : Cs) : Sx :=
    (sSeq (sFor (iIt (xV 2)) (gT 2 (gsC (gN 3) (gsC (gN 4) gsN))) (sSeq (sSet 5 (xOp ixD (xV 1) (xF (xOp dgG (xF (xUn (fldG K "own_positions") (xV 0))) (xV 3)))))
    (sIf (xIfT (xT (xF (xB (isiG K) (xCons (xV 4) (xCons (xC (.ty "str")) xNil))))) (xTO (xOp neG (xV 5) (xV 4))) (xTO (xOp (inG true) (xV 5) (xV 4)))) (sRet (xU (xC (.bl false)))) sNx)))
    (sRet (xU (xC (.bl true)))))
def m_fits (K : PySem.W.Frag) (cs : Cs) : MF := mk false 6 (b_fits K cs)
theorem ok_fits (A : All K mg cs) : FnOk P w K mg base (L2.CX P w) 1 A.a_fits A.d_fits p_fits (spM false 3 (m_fits K cs)) := by
  refine fnM A.F_fits sc_fits (by decide) fun cdv A' outer s H E hr => ?_
  have hu := hu_of hr
  have hu0 := hr.units0
  have hu64 := hr.units
  have hu65 := hr.u65
  exact (pxb_cons (pxs_for (fun h1 h2 h3 => ps_for (passes_of rfl) rfl h1 h2 h3) (pxi_it (fun h => pi_items h) (px_var (pv 2))) (pxg_tup rfl (pxgs_cons (pxg_name (pg_name (i := 3) sc_fits.nd rfl (Or.inl rfl))) (pxgs_cons (pxg_name (pg_name (i := 4) sc_fits.nd rfl (Or.inl rfl))) pxgs_nil))) (pxb_cons (pxs_set (fun h => ps_set (i := 5) sc_fits.nd rfl (Or.inl rfl) h) (po_2 (g_ix K) (fun h1 h2 => pe_ix (ixA K) h1 h2 (fun _ _ => rfl)) (px_var (pv 1)) (px_F (po_2 g_dg (fun h1 h2 => pe_dget hu h1 h2 (fun _ _ => rfl)) (px_F (po_1 (g_fld K "own_positions") (fun h => kFld K h rfl) (px_var (pv 0)))) (px_var (pv 3))))))
      (pxb_one (pxs_if (pxt_if (pxt_val (px_F (po_b (g_isi K) (fun h => pe_callB (cIsi K) (by rfl) A.b_isinstance (by decide +kernel) h) (pxa_cons (px_var (pv 4)) (pxa_cons (px_C (pe_bltn (v := .ty "str") (by rfl) A.b_str (by decide +kernel) rfl) fun _ _ _ => .ty _) pxa_nil))))) (pxt_2 (g_ne K) (fun h1 h2 => pt_cmpR (kNeD K hu64) h1 h2 (nomark _)) (px_var (pv 5)) (px_var (pv 4))) (pxt_2 (g_notInG K) (fun h1 h2 => pt_cmpR (op_notInX K hu65) h1 h2 rfl) (px_var (pv 5)) (px_var (pv 4)))) (pxb_one (pxs_ret (po_U px_bl))) pxb_nil))))
      (pxb_one (pxs_ret (po_U px_bl))))
/-! Database.__init__ -/
def b_Database___init__ (K : PySem.W.Frag) (cs : Cs) : Sx :=
    (sIf (xT (xF (xB (isiG K) (xCons (xV 1) (xCons (xC (.cls cs.Filled)) xNil))))) (sSeq (sFldI K 0 "own_schema" (xUn (fldG K "own_schema") (xV 1)))
    (sFldI K 0 "own_rows" (xUn (fldG K "own_rows") (xV 1)))) (sSeq (sFldI K 0 "own_schema" (xU (xV 1)))
    (sRows0 K 2 (iA (xF (xPr cs.Schema (false, 1, m_Schema_names K cs) "names" (xV 1)))))))
def i_Database___init__ (K : PySem.W.Frag) (cs : Cs) : MDb := mkDb cs.Database 3 (b_Database___init__ K cs)
theorem ok_Database___init__ (A : All K mg cs) : FnOk P w K mg base (L2.CX P w) 3 A.a_Database___init__ A.d_Database___init__ p_Database___init__ (spDb cs.Database 1 (i_Database___init__ K cs)) := by
  refine fnDb A.F_Database___init__ sc_Database___init__ rfl (by decide) fun cdv A' outer s H E hr => ?_
  have hu := hu_of hr
  have hu0 := hr.units0
  have hu64 := hr.units
  have hu65 := hr.u65
  exact (pxb_one (pxs_if (pxt_val (px_F (po_b (g_isi K) (fun h => pe_callB (cIsi K) (by rfl) A.b_isinstance (by decide +kernel) h) (pxa_cons (px_var (pv 1)) (pxa_cons (px_C (pe_glob (v := .ref cs.Filled) (by rfl) A.g_Filled rfl) fun _ _ _ => .cls _) pxa_nil))))) (pxb_cons (pxs_fldI (K := K) (fun h => ps_fld (pv 0) h rfl) (po_1 (g_fld K "own_schema") (fun h => kFld K h rfl) (px_var (pv 1))))
      (pxb_one (pxs_fldI (K := K) (fun h => ps_fld (pv 0) h rfl) (po_1 (g_fld K "own_rows") (fun h => kFld K h rfl) (px_var (pv 1)))))) (pxb_cons (pxs_fldI (K := K) (fun h => ps_fld (pv 0) h rfl) (po_U (px_var (pv 1))))
      (pxb_one (pxs_rows0 (K := K) (by decide) (fun h => ps_fld (pv 0) h rfl) hu0 rfl sc_Database___init__.nd (pxi_any (px_F (po_pr (fun h => pe_prop h A.cl_Schema A.P_Schema_names (ok_Schema_names A) (hr.mono (by decide)) A.B_Schema_names .nil passL rfl) (px_var (pv 1))))) (blkOk_by (own := [("name", 2)]) (N := N_Database___init__) (sc := defScope s_Database___init__) (by decide +kernel)) (fun _ _ _ _ _ => (pxg_name (pg_name (i := 2) sc_Database___init__.nd rfl (Or.inl rfl)))) (fun _ _ _ _ _ => pv 2) (fun _ _ _ _ _ => pe_dnewT))))))
/-! Database.need_table -/
def b_Database_need_table (K : PySem.W.Frag) (cs : Cs) : Sx :=
    (sIf (xTO (xInS (mt___contains__ K cs) true (xV 1) (xF (xUn (fldG K "own_schema") (xV 0))))) sNever sNx)
def m_Database_need_table (K : PySem.W.Frag) (cs : Cs) : MF := mk false 2 (b_Database_need_table K cs)
theorem ok_Database_need_table (A : All K mg cs) : FnOk P w K mg base (L2.CX P w) 2 A.a_Database_need_table A.d_Database_need_table p_Database_need_table (spM false 2 (m_Database_need_table K cs)) := by
  refine fnM A.F_Database_need_table sc_Database_need_table (by decide) fun cdv A' outer s H E hr => ?_
  have hu := hu_of hr
  have hu0 := hr.units0
  have hu64 := hr.units
  have hu65 := hr.u65
  exact (pxb_one (pxs_if (pxt_inS (fun h1 h2 => pt_cmpR (op_notInMT (sg___contains__ A (hr.mono (by decide)))) h1 h2 rfl) (px_var (pv 1)) (px_F (po_1 (g_fld K "own_schema") (fun h => kFld K h rfl) (px_var (pv 0))))) (pxb_one pxs_never) pxb_nil))
def mt_need_table (K : PySem.W.Frag) (cs : Cs) : MT := fun C => if C = cs.Database then some (false, 2, m_Database_need_table K cs) else none
theorem mtok_need_table {X : Cx} (A : All X.K X.mg cs) (hr : Room 2 X.A) : MtOk X "need_table" (mt_need_table X.K cs) := by
  intro C z h
  unfold mt_need_table at h
  split at h
  · rename_i e
    cases h
    subst e
    exact cand_of A.cl_Database A.M_Database_need_table (ok_Database_need_table A) A.B_Database_need_table (hr.mono (by decide))
  cases h
/-! Database.need_rows -/
def b_Database_need_rows (K : PySem.W.Frag) (cs : Cs) : Sx :=
    (sSeq (sEx (xM "need_table" (mt_need_table K cs) (xV 0) (xCons (xV 1) xNil)))
    (sFor (iA (xV 2)) (gN 3) (sIf (xNotT (xT (xF (xM "is_row" (mt_is_row K cs) (xF (xIxS cs.Schema (false, 2, m_Schema___getitem__ K cs) (xF (xUn (fldG K "own_schema") (xV 0))) (xV 1))) (xCons (xV 3) xNil))))) sNever sNx)))
def m_Database_need_rows (K : PySem.W.Frag) (cs : Cs) : MF := mk false 4 (b_Database_need_rows K cs)
theorem ok_Database_need_rows (A : All K mg cs) : FnOk P w K mg base (L2.CX P w) 3 A.a_Database_need_rows A.d_Database_need_rows p_Database_need_rows (spM false 3 (m_Database_need_rows K cs)) := by
  refine fnM A.F_Database_need_rows sc_Database_need_rows (by decide) fun cdv A' outer s H E hr => ?_
  have hu := hu_of hr
  have hu0 := hr.units0
  have hu64 := hr.units
  have hu65 := hr.u65
  exact (pxb_cons (pxs_ex (po_M (mtok_need_table A (hr.mono (by decide))) (fun Ew tk {ta t} h1 h2 => pe_mC Ew tk h1 h2) (px_var (pv 0)) (pxa_cons (px_var (pv 1)) pxa_nil)))
      (pxb_one (pxs_for (fun h1 h2 h3 => ps_for (passes_of rfl) rfl h1 h2 h3) (pxi_any (px_var (pv 2))) (pxg_name (pg_name (i := 3) sc_Database_need_rows.nd rfl (Or.inl rfl))) (pxb_one (pxs_if (pxt_not (pxt_val (px_F (po_M (mtok_is_row A (hr.mono (by decide))) (fun Ew tk {ta t} h1 h2 => pe_mC Ew tk h1 h2) (px_F (po_ixS (fun h1 h2 => pe_ixOwn ⟨A.M_Schema___getitem__.at_, A.M_Schema___getitem__.fn⟩ A.fi_Schema___getitem__ (ok_Schema___getitem__ A) (hr.mono (by decide)) A.B_Schema___getitem__ passL h1 h2 (fun _ _ => rfl)) (px_F (po_1 (g_fld K "own_schema") (fun h => kFld K h rfl) (px_var (pv 0)))) (px_var (pv 1)))) (pxa_cons (px_var (pv 3)) pxa_nil))))) (pxb_one pxs_never) pxb_nil)))))
def mt_need_rows (K : PySem.W.Frag) (cs : Cs) : MT := fun C => if C = cs.Database then some (false, 3, m_Database_need_rows K cs) else none
theorem mtok_need_rows {X : Cx} (A : All X.K X.mg cs) (hr : Room 3 X.A) : MtOk X "need_rows" (mt_need_rows X.K cs) := by
  intro C z h
  unfold mt_need_rows at h
  split at h
  · rename_i e
    cases h
    subst e
    exact cand_of A.cl_Database A.M_Database_need_rows (ok_Database_need_rows A) A.B_Database_need_rows (hr.mono (by decide))
  cases h
/-! Database.__setitem__ -/
def b_Database___setitem__ (K : PySem.W.Frag) (cs : Cs) : Sx :=
    (sSeq (sEx (xM "need_rows" (mt_need_rows K cs) (xV 0) (xCons (xV 1) (xCons (xV 2) xNil))))
    (sTabSet (xF (xUn (fldG K "own_rows") (xV 0))) (xV 1) (xDc true (iA (xV 2)) (gN 3) xYes (xV 3) (xC (.bl true)) [3])))
def m_Database___setitem__ (K : PySem.W.Frag) (cs : Cs) : MF := mk true 4 (b_Database___setitem__ K cs)
theorem ok_Database___setitem__ (A : All K mg cs) : FnOk P w K mg base (L2.CX P w) 4 A.a_Database___setitem__ A.d_Database___setitem__ p_Database___setitem__ (spM true 3 (m_Database___setitem__ K cs)) := by
  refine fnM A.F_Database___setitem__ sc_Database___setitem__ (by decide) fun cdv A' outer s H E hr => ?_
  have hu := hu_of hr
  have hu0 := hr.units0
  have hu64 := hr.units
  have hu65 := hr.u65
  exact (pxb_cons (pxs_ex (po_M (mtok_need_rows A (hr.mono (by decide))) (fun Ew tk {ta t} h1 h2 => pe_mC Ew tk h1 h2) (px_var (pv 0)) (pxa_cons (px_var (pv 1)) (pxa_cons (px_var (pv 2)) pxa_nil))))
      (pxb_one (pxs_tabSet (fun h1 h2 h3 => ps_dput hu h1 h2 h3 rfl) (px_F (po_1 (g_fld K "own_rows") (fun h => kFld K h rfl) (px_var (pv 0)))) (px_var (pv 1)) (po_dc (t := true) (own := [("row", 3)]) (is := [3]) hu0 rfl sc_Database___setitem__.nd (pxi_any (px_var (pv 2))) (blkOk_by (own := [("row", 3)]) (N := N_Database___setitem__) (sc := defScope s_Database___setitem__) (by decide +kernel)) (by decide) (fun _ _ _ _ _ => (pxg_name (pg_name (i := 3) sc_Database___setitem__.nd rfl (Or.inl rfl)))) (fun _ _ _ _ _ => pxts_nil) (fun _ _ _ _ _ => (px_var (pv 3))) (fun _ _ _ _ _ => px_bl)))))
/-! Database.count -/
def b_Database_count (K : PySem.W.Frag) (cs : Cs) : Sx :=
    (sSeq (sEx (xM "need_table" (mt_need_table K cs) (xV 0) (xCons (xV 1) xNil)))
    (sSeq (sSet 3 (xIxS cs.Schema (false, 2, m_Schema___getitem__ K cs) (xF (xUn (fldG K "own_schema") (xV 0))) (xV 1)))
    (sSeq (sFor (iA (xV 2)) (gN 4) (sIf (xTO (xOp (inG true) (xV 4) (xF (xUn (fldG K "own_positions") (xV 3))))) sNever sNx))
    (sRet (xVw (xB lenG (xCons (xF (xLc (iA (xF (xOp dgG (xOpen (xF (xUn (fldG K "own_rows") (xV 0)))) (xV 1)))) (gN 5) (xT (xF (xP 3 (m_fits K cs) (xCons (xV 3) (xCons (xV 5) (xCons (xV 2) xNil)))))) (xV 5) [5])) xNil)))))))
def m_Database_count (K : PySem.W.Frag) (cs : Cs) : MF := mk false 6 (b_Database_count K cs)
theorem ok_Database_count (A : All K mg cs) : FnOk P w K mg base (L2.CX P w) 3 A.a_Database_count A.d_Database_count p_Database_count (spM false 3 (m_Database_count K cs)) := by
  refine fnM A.F_Database_count sc_Database_count (by decide) fun cdv A' outer s H E hr => ?_
  have hu := hu_of hr
  have hu0 := hr.units0
  have hu64 := hr.units
  have hu65 := hr.u65
  exact (pxb_cons (pxs_ex (po_M (mtok_need_table A (hr.mono (by decide))) (fun Ew tk {ta t} h1 h2 => pe_mC Ew tk h1 h2) (px_var (pv 0)) (pxa_cons (px_var (pv 1)) pxa_nil)))
      (pxb_cons (pxs_set (fun h => ps_set (i := 3) sc_Database_count.nd rfl (Or.inr rfl) h) (po_ixS (fun h1 h2 => pe_ixOwn ⟨A.M_Schema___getitem__.at_, A.M_Schema___getitem__.fn⟩ A.fi_Schema___getitem__ (ok_Schema___getitem__ A) (hr.mono (by decide)) A.B_Schema___getitem__ passL h1 h2 (fun _ _ => rfl)) (px_F (po_1 (g_fld K "own_schema") (fun h => kFld K h rfl) (px_var (pv 0)))) (px_var (pv 1))))
      (pxb_cons (pxs_for (fun h1 h2 h3 => ps_for (passes_of rfl) rfl h1 h2 h3) (pxi_any (px_var (pv 2))) (pxg_name (pg_name (i := 4) sc_Database_count.nd rfl (Or.inl rfl))) (pxb_one (pxs_if (pxt_2 (g_notInG K) (fun h1 h2 => pt_cmpR (op_notInX K hu65) h1 h2 rfl) (px_var (pv 4)) (px_F (po_1 (g_fld K "own_positions") (fun h => kFld K h rfl) (px_var (pv 3))))) (pxb_one pxs_never) pxb_nil)))
      (pxb_one (pxs_ret (po_Vw (po_b (g_len K) (fun h => pe_callB (cLen K) (by rfl) A.b_len (by decide +kernel) h) (pxa_cons (px_F (po_lc (own := [("row", 5)]) (is := [5]) rfl sc_Database_count.nd (pxi_any (px_F (po_2 g_dg (fun h1 h2 => pe_dget hu h1 h2 (fun _ _ => rfl)) (px_open (px_F (po_1 (g_fld K "own_rows") (fun h => kFld K h rfl) (px_var (pv 0))))) (px_var (pv 1))))) (blkOk_by (own := [("row", 5)]) (N := N_Database_count) (sc := defScope s_Database_count) (by decide +kernel)) (by decide) (fun _ _ _ _ _ => (pxg_name (pg_name (i := 5) sc_Database_count.nd rfl (Or.inl rfl)))) (fun _ _ _ _ _ => (pxts_one (pxt_val (px_F (po_P (call_sp (ok_fits A) (hr.mono (by decide)) rfl A.D_fits.m A.D_fits.k A.D_fits.b) (pxa_cons (px_var (pv 3)) (pxa_cons (px_var (pv 5)) (pxa_cons (px_var (pv 2)) pxa_nil)))))))) (fun _ _ _ _ _ => (px_var (pv 5))))) pxa_nil))))))))
def mt_count (K : PySem.W.Frag) (cs : Cs) : MT := fun C => if C = cs.Database then some (false, 3, m_Database_count K cs) else none
theorem mtok_count {X : Cx} (A : All X.K X.mg cs) (hr : Room 3 X.A) : MtOk X "count" (mt_count X.K cs) := by
  intro C z h
  unfold mt_count at h
  split at h
  · rename_i e
    cases h
    subst e
    exact cand_of A.cl_Database A.M_Database_count (ok_Database_count A) A.B_Database_count (hr.mono (by decide))
  cases h
end
end Q
namespace Q
open PySem L2 PySem.Spec PyProof.Rows
section
variable {P : Program} {w : World} {K : PySem.W.Frag} {mg : Str → Option Value} {base : Heap} {cs : Cs}
/-! _law_pick -/
def b__law_pick (K : PySem.W.Frag) (cs : Cs) : Sx :=
    (sRet (xU (xF (xOp ixD (xV 1) (xF (xE true 2 (m__law_draw) (xCons (xV 0) (xCons (xF (xB lenG (xCons (xV 1) xNil))) xNil))))))))
def m__law_pick (K : PySem.W.Frag) (cs : Cs) : MF := mk true 2 (b__law_pick K cs)
theorem ok__law_pick (A : All K mg cs) : FnOk P w K mg base (L2.CX P w) 2 A.a__law_pick A.d__law_pick p__law_pick (spM true 2 (m__law_pick K cs)) := by
  refine fnM A.F__law_pick sc__law_pick (by decide) fun cdv A' outer s H E hr => ?_
  have hu := hu_of hr
  have hu0 := hr.units0
  have hu64 := hr.units
  have hu65 := hr.u65
  exact (pxb_one (pxs_ret (po_U (px_F (po_2 (g_ix K) (fun h1 h2 => pe_ix (ixA K) h1 h2 (fun _ _ => rfl)) (px_var (pv 1)) (px_F (po_E (call_sp (ok__law_draw A) (hr.mono (by decide)) rfl A.D__law_draw.m A.D__law_draw.k A.D__law_draw.b) (pxa_cons (px_var (pv 0)) (pxa_cons (px_F (po_b (g_len K) (fun h => pe_callB (cLen K) (by rfl) A.b_len (by decide +kernel) h) (pxa_cons (px_var (pv 1)) pxa_nil))) pxa_nil)))))))))
/-! _law_shuffled -/
def b__law_shuffled (K : PySem.W.Frag) (cs : Cs) : Sx :=
    (sSeq (sPar2 2 3 (oCons (xB listG (xCons (xV 1) xNil)) (oCons (xLst xNil) oNil)))
    (sSeq (sWhile (xTO (xOp neG (xV 2) (xF (xLst xNil)))) (sAppPop 3 2 (xF (xE true 2 (m__law_draw) (xCons (xV 0) (xCons (xF (xB lenG (xCons (xV 2) xNil))) xNil))))))
    (sRet (xMv 3))))
def m__law_shuffled (K : PySem.W.Frag) (cs : Cs) : MF := mk true 4 (b__law_shuffled K cs)
theorem ok__law_shuffled (A : All K mg cs) : FnOk P w K mg base (L2.CX P w) 2 A.a__law_shuffled A.d__law_shuffled p__law_shuffled (spM true 2 (m__law_shuffled K cs)) := by
  refine fnM A.F__law_shuffled sc__law_shuffled (by decide) fun cdv A' outer s H E hr => ?_
  have hu := hu_of hr
  have hu0 := hr.units0
  have hu64 := hr.units
  have hu65 := hr.u65
  exact (pxb_cons (pxs_par2 (fun h => ps_par (i := 2) (j := 3) (by rfl) sc__law_shuffled.nd rfl rfl (by decide) rfl rfl h (by rfl)) (pao_cons (po_b (g_list K) (fun h => pe_callTy (kList K) (by rfl) A.b_list (by decide +kernel) h) (pxa_cons (px_var (pv 1)) pxa_nil)) (pao_cons (po_lst pxa_nil) pao_nil)))
      (pxb_cons (pxs_while (fun h1 h2 => ps_while (passes_of rfl) h1 h2) (pxt_2 (g_ne K) (fun h1 h2 => pt_cmpR (kNeD K hu64) h1 h2 (nomark _)) (px_var (pv 2)) (px_F (po_lst pxa_nil))) (pxb_one (pxs_appPop (fun h => ps_expr (pe_bm PySem.F.plainAttrs_list PySem.F.slot_list_append PySem.F.type_list_append mt_append (pv 3) h)) (fun h => pe_bm PySem.F.plainAttrs_list PySem.F.slot_list_pop PySem.F.type_list_pop mt_popAt (pv 2) h) rfl (pxa_cons (px_F (po_E (call_sp (ok__law_draw A) (hr.mono (by decide)) rfl A.D__law_draw.m A.D__law_draw.k A.D__law_draw.b) (pxa_cons (px_var (pv 0)) (pxa_cons (px_F (po_b (g_len K) (fun h => pe_callB (cLen K) (by rfl) A.b_len (by decide +kernel) h) (pxa_cons (px_var (pv 2)) pxa_nil))) pxa_nil)))) pxa_nil))))
      (pxb_one (pxs_ret (po_mv (pv 3))))))
/-! _law_words -/
def b__law_words (K : PySem.W.Frag) (cs : Cs) : Sx :=
    (sSeq (sSet 2 (xU (xC (.str "abcdefghijklmnopqrstuvwxyz"))))
    (sSeq (sSet 3 (xM1 joinG (xC (.str "")) (xF (xLc (iR1 (xCons (xF (xE true 2 (m__law_draw) (xCons (xV 0) (xCons (xC (.int 5)) xNil)))) xNil)) (gN 8) xYes (xF (xE true 2 (m__law_pick K cs) (xCons (xV 0) (xCons (xV 2) xNil)))) [8]))))
    (sSeq (sAsg (xTup (xCons (xF (xE true 2 (m__law_draw) (xCons (xV 0) (xCons (xF (xOp addG (xF (xB lenG (xCons (xV 3) xNil))) (xC (.int 1)))) xNil)))) (xCons (xF (xE true 2 (m__law_draw) (xCons (xV 0) (xCons (xC (.int 26)) xNil)))) (xCons (xF (xE true 2 (m__law_pick K cs) (xCons (xV 0) (xCons (xF (xLst (xCons (xC (.int 1)) (xCons (xC (.int 3)) (xCons (xC (.int 5)) (xCons (xC (.int 7)) (xCons (xC (.int 9)) (xCons (xC (.int 11)) xNil)))))))) xNil)))) xNil)))) (gT 3 (gsC (gN 5) (gsC (gN 6) (gsC (gN 7) gsN)))))
    (sSeq (sSet 4 (xLc (iR1 (xCons (xV 1) xNil)) (gN 8) xYes (xF (xOp addG (xF (xOp addG (xF (xSlS (xV 3) pNo (pSo (xV 5)))) (xF (xOp ixD (xV 2) (xF (xOp modG (xF (xB intG (xCons (xF (xOp addG (xV 6) (xF (xOp mulG (xV 7) (xV 8))))) xNil))) (xC (.int 26)))))))) (xF (xSlS (xV 3) (pSo (xV 5)) pNo)))) [8]))
    (sRet (xU (xF (xLc (iR1 (xCons (xV 1) xNil)) (gN 8) xYes (xF (xOp addG (xF (xOp ixD (xV 4) (xV 8))) (xF (xOp mulSG (xC (.str "q")) (xF (xB intG (xCons (xF (xOp eqG (xF (xOp modG (xF (xB intG (xCons (xV 8) xNil))) (xC (.int 3)))) (xC (.int 2)))) xNil))))))) [8]))))))))
def m__law_words (K : PySem.W.Frag) (cs : Cs) : MF := mk true 9 (b__law_words K cs)
theorem ok__law_words (A : All K mg cs) : FnOk P w K mg base (L2.CX P w) 3 A.a__law_words A.d__law_words p__law_words (spM true 2 (m__law_words K cs)) := by
  refine fnM A.F__law_words sc__law_words (by decide) fun cdv A' outer s H E hr => ?_
  have hu := hu_of hr
  have hu0 := hr.units0
  have hu64 := hr.units
  have hu65 := hr.u65
  exact (pxb_cons (pxs_set (fun h => ps_set (i := 2) sc__law_words.nd rfl (Or.inr rfl) h) (po_U px_str))
      (pxb_cons (pxs_set (fun h => ps_set (i := 3) sc__law_words.nd rfl (Or.inr rfl) h) (po_m1 (g_join K) (fun h1 h2 => pe_join2 K h1 h2) px_str (px_F (po_lc (own := [("_law_k", 8)]) (is := [8]) rfl sc__law_words.nd (pxi_r1 (fun h => pi_range1 (by rfl) A.b_range h) (pxa_cons (px_F (po_E (call_sp (ok__law_draw A) (hr.mono (by decide)) rfl A.D__law_draw.m A.D__law_draw.k A.D__law_draw.b) (pxa_cons (px_var (pv 0)) (pxa_cons px_int pxa_nil)))) pxa_nil)) (blkOk_by (own := [("_law_k", 8)]) (N := N__law_words) (sc := defScope s__law_words) (by decide +kernel)) (by decide) (fun _ _ _ _ _ => (pxg_name (pg_name (i := 8) sc__law_words.nd rfl (Or.inl rfl)))) (fun _ _ _ _ _ => pxts_nil) (fun _ _ _ _ _ => (px_F (po_E (call_sp (ok__law_pick A) (hr.mono (by decide)) rfl A.D__law_pick.m A.D__law_pick.k A.D__law_pick.b) (pxa_cons (px_var (pv 0)) (pxa_cons (px_var (pv 2)) pxa_nil)))))))))
      (pxb_cons (pxs_asg (fun h1 h2 => ps_asg h1 h2) (po_tup (pxa_cons (px_F (po_E (call_sp (ok__law_draw A) (hr.mono (by decide)) rfl A.D__law_draw.m A.D__law_draw.k A.D__law_draw.b) (pxa_cons (px_var (pv 0)) (pxa_cons (px_F (po_2 (g_add K) (fun h1 h2 => pe_op (op_addA K) h1 h2) (px_F (po_b (g_len K) (fun h => pe_callB (cLen K) (by rfl) A.b_len (by decide +kernel) h) (pxa_cons (px_var (pv 3)) pxa_nil))) px_int)) pxa_nil)))) (pxa_cons (px_F (po_E (call_sp (ok__law_draw A) (hr.mono (by decide)) rfl A.D__law_draw.m A.D__law_draw.k A.D__law_draw.b) (pxa_cons (px_var (pv 0)) (pxa_cons px_int pxa_nil)))) (pxa_cons (px_F (po_E (call_sp (ok__law_pick A) (hr.mono (by decide)) rfl A.D__law_pick.m A.D__law_pick.k A.D__law_pick.b) (pxa_cons (px_var (pv 0)) (pxa_cons (px_F (po_lst (pxa_cons px_int (pxa_cons px_int (pxa_cons px_int (pxa_cons px_int (pxa_cons px_int (pxa_cons px_int pxa_nil)))))))) pxa_nil)))) pxa_nil)))) (pxg_tup rfl (pxgs_cons (pxg_name (pg_name (i := 5) sc__law_words.nd rfl (Or.inr rfl))) (pxgs_cons (pxg_name (pg_name (i := 6) sc__law_words.nd rfl (Or.inr rfl))) (pxgs_cons (pxg_name (pg_name (i := 7) sc__law_words.nd rfl (Or.inr rfl))) pxgs_nil)))))
      (pxb_cons (pxs_set (fun h => ps_set (i := 4) sc__law_words.nd rfl (Or.inr rfl) h) (po_lc (own := [("_law_k", 8)]) (is := [8]) rfl sc__law_words.nd (pxi_r1 (fun h => pi_range1 (by rfl) A.b_range h) (pxa_cons (px_var (pv 1)) pxa_nil)) (blkOk_by (own := [("_law_k", 8)]) (N := N__law_words) (sc := defScope s__law_words) (by decide +kernel)) (by decide) (fun _ _ _ _ _ => (pxg_name (pg_name (i := 8) sc__law_words.nd rfl (Or.inl rfl)))) (fun _ _ _ _ _ => pxts_nil) (fun _ _ _ _ _ => (px_F (po_2 (g_add K) (fun h1 h2 => pe_op (op_addA K) h1 h2) (px_F (po_2 (g_add K) (fun h1 h2 => pe_op (op_addA K) h1 h2) (px_F (po_slS (fun h1 h2 h3 => pe_slice sl_str h1 h2 h3) (px_var (pv 3)) pxp_no (pxp_so (px_var (pv 5))))) (px_F (po_2 (g_ix K) (fun h1 h2 => pe_ix (ixA K) h1 h2 (fun _ _ => rfl)) (px_var (pv 2)) (px_F (po_2 g_mod (fun h1 h2 => pe_op op_mod h1 h2) (px_F (po_b g_int (fun h => pe_callTy call_int1 (by rfl) A.b_int (by decide +kernel) h) (pxa_cons (px_F (po_2 (g_add K) (fun h1 h2 => pe_op (op_addA K) h1 h2) (px_var (pv 6)) (px_F (po_2 g_mul (fun h1 h2 => pe_op op_mul h1 h2) (px_var (pv 7)) (px_var (pv 8)))))) pxa_nil))) px_int)))))) (px_F (po_slS (fun h1 h2 h3 => pe_slice sl_str h1 h2 h3) (px_var (pv 3)) (pxp_so (px_var (pv 5))) pxp_no)))))))
      (pxb_one (pxs_ret (po_U (px_F (po_lc (own := [("_law_k", 8)]) (is := [8]) rfl sc__law_words.nd (pxi_r1 (fun h => pi_range1 (by rfl) A.b_range h) (pxa_cons (px_var (pv 1)) pxa_nil)) (blkOk_by (own := [("_law_k", 8)]) (N := N__law_words) (sc := defScope s__law_words) (by decide +kernel)) (by decide) (fun _ _ _ _ _ => (pxg_name (pg_name (i := 8) sc__law_words.nd rfl (Or.inl rfl)))) (fun _ _ _ _ _ => pxts_nil) (fun _ _ _ _ _ => (px_F (po_2 (g_add K) (fun h1 h2 => pe_op (op_addA K) h1 h2) (px_F (po_2 (g_ix K) (fun h1 h2 => pe_ix (ixA K) h1 h2 (fun _ _ => rfl)) (px_var (pv 4)) (px_var (pv 8)))) (px_F (po_2 g_mulS (fun h1 h2 => pe_op op_mulS h1 h2) px_str (px_F (po_b g_int (fun h => pe_callTy call_int1 (by rfl) A.b_int (by decide +kernel) h) (pxa_cons (px_F (po_2 (g_eq K) (fun h1 h2 => pe_cmpR (kEqD K hu64) h1 h2 (nomark _)) (px_F (po_2 g_mod (fun h1 h2 => pe_op op_mod h1 h2) (px_F (po_b g_int (fun h => pe_callTy call_int1 (by rfl) A.b_int (by decide +kernel) h) (pxa_cons (px_var (pv 8)) pxa_nil))) px_int)) px_int)) pxa_nil)))))))))))))))))
/-! _law_columns_of -/
def b__law_columns_of (K : PySem.W.Frag) (cs : Cs) : Sx :=
    (sRet (xU (xF (xOp ixD (xF (xLc (iA (xV 0)) (gT 2 (gsC (gN 2) (gsC (gN 3) gsN))) (xTO (xOp eqG (xV 2) (xV 1))) (xV 3) [2, 3])) (xC (.int 0))))))
def m__law_columns_of (K : PySem.W.Frag) (cs : Cs) : MF := mk false 4 (b__law_columns_of K cs)
theorem ok__law_columns_of (A : All K mg cs) : FnOk P w K mg base (L2.CX P w) 1 A.a__law_columns_of A.d__law_columns_of p__law_columns_of (spM false 2 (m__law_columns_of K cs)) := by
  refine fnM A.F__law_columns_of sc__law_columns_of (by decide) fun cdv A' outer s H E hr => ?_
  have hu := hu_of hr
  have hu0 := hr.units0
  have hu64 := hr.units
  have hu65 := hr.u65
  exact (pxb_one (pxs_ret (po_U (px_F (po_2 (g_ix K) (fun h1 h2 => pe_ix (ixA K) h1 h2 (fun _ _ => rfl)) (px_F (po_lc (own := [("_law_name_here", 2), ("_law_columns", 3)]) (is := [2, 3]) rfl sc__law_columns_of.nd (pxi_any (px_var (pv 0))) (blkOk_by (own := [("_law_name_here", 2), ("_law_columns", 3)]) (N := N__law_columns_of) (sc := defScope s__law_columns_of) (by decide +kernel)) (by decide) (fun _ _ _ _ _ => (pxg_tup rfl (pxgs_cons (pxg_name (pg_name (i := 2) sc__law_columns_of.nd rfl (Or.inl rfl))) (pxgs_cons (pxg_name (pg_name (i := 3) sc__law_columns_of.nd rfl (Or.inl rfl))) pxgs_nil)))) (fun _ _ _ _ _ => (pxts_one (pxt_2 (g_eq K) (fun h1 h2 => pt_cmpR (kEqD K hu64) h1 h2 (nomark _)) (px_var (pv 2)) (px_var (pv 1))))) (fun _ _ _ _ _ => (px_var (pv 3))))) px_int)))))
/-! _law_spot -/
def b__law_spot (K : PySem.W.Frag) (cs : Cs) : Sx :=
    (sSeq (sSet 3 (xP 2 (m__law_columns_of K cs) (xCons (xV 0) (xCons (xV 1) xNil))))
    (sRet (xU (xF (xOp ixD (xF (xLc (iR1 (xCons (xF (xB lenG (xCons (xV 3) xNil))) xNil)) (gN 4) (xTO (xOp eqG (xF (xOp ixD (xF (xOp ixD (xV 3) (xV 4))) (xC (.int 0)))) (xV 2))) (xV 4) [4])) (xC (.int 0)))))))
def m__law_spot (K : PySem.W.Frag) (cs : Cs) : MF := mk false 5 (b__law_spot K cs)
theorem ok__law_spot (A : All K mg cs) : FnOk P w K mg base (L2.CX P w) 2 A.a__law_spot A.d__law_spot p__law_spot (spM false 3 (m__law_spot K cs)) := by
  refine fnM A.F__law_spot sc__law_spot (by decide) fun cdv A' outer s H E hr => ?_
  have hu := hu_of hr
  have hu0 := hr.units0
  have hu64 := hr.units
  have hu65 := hr.u65
  exact (pxb_cons (pxs_set (fun h => ps_set (i := 3) sc__law_spot.nd rfl (Or.inr rfl) h) (po_P (call_sp (ok__law_columns_of A) (hr.mono (by decide)) rfl A.D__law_columns_of.m A.D__law_columns_of.k A.D__law_columns_of.b) (pxa_cons (px_var (pv 0)) (pxa_cons (px_var (pv 1)) pxa_nil))))
      (pxb_one (pxs_ret (po_U (px_F (po_2 (g_ix K) (fun h1 h2 => pe_ix (ixA K) h1 h2 (fun _ _ => rfl)) (px_F (po_lc (own := [("_law_k", 4)]) (is := [4]) rfl sc__law_spot.nd (pxi_r1 (fun h => pi_range1 (by rfl) A.b_range h) (pxa_cons (px_F (po_b (g_len K) (fun h => pe_callB (cLen K) (by rfl) A.b_len (by decide +kernel) h) (pxa_cons (px_var (pv 3)) pxa_nil))) pxa_nil)) (blkOk_by (own := [("_law_k", 4)]) (N := N__law_spot) (sc := defScope s__law_spot) (by decide +kernel)) (by decide) (fun _ _ _ _ _ => (pxg_name (pg_name (i := 4) sc__law_spot.nd rfl (Or.inl rfl)))) (fun _ _ _ _ _ => (pxts_one (pxt_2 (g_eq K) (fun h1 h2 => pt_cmpR (kEqD K hu64) h1 h2 (nomark _)) (px_F (po_2 (g_ix K) (fun h1 h2 => pe_ix (ixA K) h1 h2 (fun _ _ => rfl)) (px_F (po_2 (g_ix K) (fun h1 h2 => pe_ix (ixA K) h1 h2 (fun _ _ => rfl)) (px_var (pv 3)) (px_var (pv 4)))) px_int)) (px_var (pv 2))))) (fun _ _ _ _ _ => (px_var (pv 4))))) px_int))))))
/-! _law_row_fits -/
def b__law_row_fits (K : PySem.W.Frag) (cs : Cs) : Sx :=
    (sRet (xU (xF (xOp eqG (xF (xLc (iA (xV 3)) (gN 4) (xTO (xOp (inG true) (xF (xOp ixD (xV 2) (xF (xP 3 (m__law_spot K cs) (xCons (xV 0) (xCons (xV 1) (xCons (xV 4) xNil))))))) (xF (xOp dgG (xV 3) (xV 4))))) (xV 4) [4])) (xF (xLst xNil))))))
def m__law_row_fits (K : PySem.W.Frag) (cs : Cs) : MF := mk false 5 (b__law_row_fits K cs)
theorem ok__law_row_fits (A : All K mg cs) : FnOk P w K mg base (L2.CX P w) 3 A.a__law_row_fits A.d__law_row_fits p__law_row_fits (spM false 4 (m__law_row_fits K cs)) := by
  refine fnM A.F__law_row_fits sc__law_row_fits (by decide) fun cdv A' outer s H E hr => ?_
  have hu := hu_of hr
  have hu0 := hr.units0
  have hu64 := hr.units
  have hu65 := hr.u65
  exact (pxb_one (pxs_ret (po_U (px_F (po_2 (g_eq K) (fun h1 h2 => pe_cmpR (kEqD K hu64) h1 h2 (nomark _)) (px_F (po_lc (own := [("_law_column", 4)]) (is := [4]) rfl sc__law_row_fits.nd (pxi_any (px_var (pv 3))) (blkOk_by (own := [("_law_column", 4)]) (N := N__law_row_fits) (sc := defScope s__law_row_fits) (by decide +kernel)) (by decide) (fun _ _ _ _ _ => (pxg_name (pg_name (i := 4) sc__law_row_fits.nd rfl (Or.inl rfl)))) (fun _ _ _ _ _ => (pxts_one (pxt_2 (g_notInG K) (fun h1 h2 => pt_cmpR (op_notInX K hu65) h1 h2 rfl) (px_F (po_2 (g_ix K) (fun h1 h2 => pe_ix (ixA K) h1 h2 (fun _ _ => rfl)) (px_var (pv 2)) (px_F (po_P (call_sp (ok__law_spot A) (hr.mono (by decide)) rfl A.D__law_spot.m A.D__law_spot.k A.D__law_spot.b) (pxa_cons (px_var (pv 0)) (pxa_cons (px_var (pv 1)) (pxa_cons (px_var (pv 4)) pxa_nil))))))) (px_F (po_2 g_dg (fun h1 h2 => pe_dget hu h1 h2 (fun _ _ => rfl)) (px_var (pv 3)) (px_var (pv 4))))))) (fun _ _ _ _ _ => (px_var (pv 4))))) (px_F (po_lst pxa_nil)))))))
/-! _law_made_table -/
def b__law_made_table (K : PySem.W.Frag) (cs : Cs) : Sx :=
    (sSeq (sAsg (xU (xV 0)) (gT 2 (gsC (gN 2) (gsC (gN 3) gsN))))
    (sSeq (sSet 1 (xLc (iA (xV 3)) (gT 2 (gsC (gN 4) (gsC (gN 5) gsN))) xYes (xF (xIfO (xTO (xOp isNG (xV 5) (xC .non))) (xU (xV 4)) (xTup (xCons (xV 4) (xCons (xF (xB listG (xCons (xV 5) xNil))) xNil))))) [4, 5]))
    (sSeq (sIf (xTO (xOp eqG (xF (xB lenG (xCons (xV 1) xNil))) (xC (.int 1)))) (sRet (xU (xF (xMk cs.Table false 2 (i_Table___init__ K cs) (xCons (xV 2) (xCons (xF (xOp ixD (xV 1) (xC (.int 0)))) xNil)))))) sNx)
    (sRet (xU (xF (xIfO (xTO (xOp eqG (xF (xB lenG (xCons (xV 1) xNil))) (xC (.int 2)))) (xMk cs.Table false 3 (i_Table___init__ K cs) (xCons (xV 2) (xCons (xF (xOp ixD (xV 1) (xC (.int 0)))) (xCons (xF (xOp ixD (xV 1) (xC (.int 1)))) xNil)))) (xMk cs.Table false 4 (i_Table___init__ K cs) (xCons (xV 2) (xCons (xF (xOp ixD (xV 1) (xC (.int 0)))) (xCons (xF (xOp ixD (xV 1) (xC (.int 1)))) (xCons (xF (xOp ixD (xV 1) (xC (.int 2)))) xNil))))))))))))
def m__law_made_table (K : PySem.W.Frag) (cs : Cs) : MF := mk false 6 (b__law_made_table K cs)
theorem ok__law_made_table (A : All K mg cs) : FnOk P w K mg base (L2.CX P w) 5 A.a__law_made_table A.d__law_made_table p__law_made_table (spM false 1 (m__law_made_table K cs)) := by
  refine fnM A.F__law_made_table sc__law_made_table (by decide) fun cdv A' outer s H E hr => ?_
  have hu := hu_of hr
  have hu0 := hr.units0
  have hu64 := hr.units
  have hu65 := hr.u65
  exact (pxb_cons (pxs_asg (fun h1 h2 => ps_asg h1 h2) (po_U (px_var (pv 0))) (pxg_tup rfl (pxgs_cons (pxg_name (pg_name (i := 2) sc__law_made_table.nd rfl (Or.inl rfl))) (pxgs_cons (pxg_name (pg_name (i := 3) sc__law_made_table.nd rfl (Or.inl rfl))) pxgs_nil))))
      (pxb_cons (pxs_setLc (elt := .Name "" ⟨0, 0, 0, 0⟩) (ifs := []) (is := [4, 5]) (by decide) (pxi_any (px_var (pv 3))) (fun c h => ps_setLc (own := [("_law_word", 4), ("_law_marks", 5)]) rfl sc__law_made_table.nd rfl rfl (sw_true rfl rfl rfl (by decide +kernel)) h (blkOk_by (own := [("_law_word", 4), ("_law_marks", 5)]) (N := N__law_made_table) (sc := defScope s__law_made_table) (by decide +kernel)) (fun _ _ _ _ _ => pg_any c (pxg_tup rfl (pxgs_cons (pxg_name (pg_name (i := 4) sc__law_made_table.nd rfl (Or.inl rfl))) (pxgs_cons (pxg_name (pg_name (i := 5) sc__law_made_table.nd rfl (Or.inl rfl))) pxgs_nil)))) (fun _ _ _ _ _ => pts_any c pxts_nil) (fun _ _ _ _ _ => pe_any c (px_F (po_if (pxt_2 g_isN (fun h1 h2 => pt_cmpR op_isN h1 h2 (nomark _)) (px_var (pv 5)) px_non) (po_U (px_var (pv 4))) (po_tup (pxa_cons (px_var (pv 4)) (pxa_cons (px_F (po_b (g_list K) (fun h => pe_callTy (kList K) (by rfl) A.b_list (by decide +kernel) h) (pxa_cons (px_var (pv 5)) pxa_nil))) pxa_nil))))))))
      (pxb_cons (pxs_if (pxt_2 (g_eq K) (fun h1 h2 => pt_cmpR (kEqD K hu64) h1 h2 (nomark _)) (px_F (po_b (g_len K) (fun h => pe_callB (cLen K) (by rfl) A.b_len (by decide +kernel) h) (pxa_cons (px_var (pv 1)) pxa_nil))) px_int) (pxb_one (pxs_ret (po_U (px_F (po_Mk (make_sp A.mk_Table (ok_Table___init__ A 2) (hr.mono (by decide)) rfl A.g_Table) (pxa_cons (px_var (pv 2)) (pxa_cons (px_F (po_2 (g_ix K) (fun h1 h2 => pe_ix (ixA K) h1 h2 (fun _ _ => rfl)) (px_var (pv 1)) px_int)) pxa_nil))))))) pxb_nil)
      (pxb_one (pxs_ret (po_U (px_F (po_if (pxt_2 (g_eq K) (fun h1 h2 => pt_cmpR (kEqD K hu64) h1 h2 (nomark _)) (px_F (po_b (g_len K) (fun h => pe_callB (cLen K) (by rfl) A.b_len (by decide +kernel) h) (pxa_cons (px_var (pv 1)) pxa_nil))) px_int) (po_Mk (make_sp A.mk_Table (ok_Table___init__ A 3) (hr.mono (by decide)) rfl A.g_Table) (pxa_cons (px_var (pv 2)) (pxa_cons (px_F (po_2 (g_ix K) (fun h1 h2 => pe_ix (ixA K) h1 h2 (fun _ _ => rfl)) (px_var (pv 1)) px_int)) (pxa_cons (px_F (po_2 (g_ix K) (fun h1 h2 => pe_ix (ixA K) h1 h2 (fun _ _ => rfl)) (px_var (pv 1)) px_int)) pxa_nil)))) (po_Mk (make_sp A.mk_Table (ok_Table___init__ A 4) (hr.mono (by decide)) rfl A.g_Table) (pxa_cons (px_var (pv 2)) (pxa_cons (px_F (po_2 (g_ix K) (fun h1 h2 => pe_ix (ixA K) h1 h2 (fun _ _ => rfl)) (px_var (pv 1)) px_int)) (pxa_cons (px_F (po_2 (g_ix K) (fun h1 h2 => pe_ix (ixA K) h1 h2 (fun _ _ => rfl)) (px_var (pv 1)) px_int)) (pxa_cons (px_F (po_2 (g_ix K) (fun h1 h2 => pe_ix (ixA K) h1 h2 (fun _ _ => rfl)) (px_var (pv 1)) px_int)) pxa_nil)))))))))))))
/-! _law_made_schema -/
def b__law_made_schema (K : PySem.W.Frag) (cs : Cs) : Sx :=
    (sSeq (sSet 1 (xLc (iA (xV 0)) (gN 2) xYes (xF (xP 1 (m__law_made_table K cs) (xCons (xV 2) xNil))) [2]))
    (sSeq (sIf (xTO (xOp ltG (xF (xB lenG (xCons (xV 1) xNil))) (xC (.int 3)))) (sRet (xU (xF (xIfO (xTO (xOp eqG (xF (xB lenG (xCons (xV 1) xNil))) (xC (.int 1)))) (xMk cs.Schema false 1 (i_Schema___init__ K cs) (xCons (xF (xOp ixD (xV 1) (xC (.int 0)))) xNil)) (xMk cs.Schema false 2 (i_Schema___init__ K cs) (xCons (xF (xOp ixD (xV 1) (xC (.int 0)))) (xCons (xF (xOp ixD (xV 1) (xC (.int 1)))) xNil))))))) sNx)
    (sRet (xU (xF (xIfO (xTO (xOp eqG (xF (xB lenG (xCons (xV 1) xNil))) (xC (.int 3)))) (xMk cs.Schema false 3 (i_Schema___init__ K cs) (xCons (xF (xOp ixD (xV 1) (xC (.int 0)))) (xCons (xF (xOp ixD (xV 1) (xC (.int 1)))) (xCons (xF (xOp ixD (xV 1) (xC (.int 2)))) xNil)))) (xMk cs.Schema false 4 (i_Schema___init__ K cs) (xCons (xF (xOp ixD (xV 1) (xC (.int 0)))) (xCons (xF (xOp ixD (xV 1) (xC (.int 1)))) (xCons (xF (xOp ixD (xV 1) (xC (.int 2)))) (xCons (xF (xOp ixD (xV 1) (xC (.int 3)))) xNil)))))))))))
def m__law_made_schema (K : PySem.W.Frag) (cs : Cs) : MF := mk false 3 (b__law_made_schema K cs)
theorem ok__law_made_schema (A : All K mg cs) : FnOk P w K mg base (L2.CX P w) 6 A.a__law_made_schema A.d__law_made_schema p__law_made_schema (spM false 1 (m__law_made_schema K cs)) := by
  refine fnM A.F__law_made_schema sc__law_made_schema (by decide) fun cdv A' outer s H E hr => ?_
  have hu := hu_of hr
  have hu0 := hr.units0
  have hu64 := hr.units
  have hu65 := hr.u65
  exact (pxb_cons (pxs_setLc (elt := .Name "" ⟨0, 0, 0, 0⟩) (ifs := []) (is := [2]) (by decide) (pxi_any (px_var (pv 0))) (fun c h => ps_setLc (own := [("_law_plain", 2)]) rfl sc__law_made_schema.nd rfl rfl (sw_true rfl rfl rfl (by decide +kernel)) h (blkOk_by (own := [("_law_plain", 2)]) (N := N__law_made_schema) (sc := defScope s__law_made_schema) (by decide +kernel)) (fun _ _ _ _ _ => pg_any c (pxg_name (pg_name (i := 2) sc__law_made_schema.nd rfl (Or.inl rfl)))) (fun _ _ _ _ _ => pts_any c pxts_nil) (fun _ _ _ _ _ => pe_any c (px_F (po_P (call_sp (ok__law_made_table A) (hr.mono (by decide)) rfl A.D__law_made_table.m A.D__law_made_table.k A.D__law_made_table.b) (pxa_cons (px_var (pv 2)) pxa_nil))))))
      (pxb_cons (pxs_if (pxt_2 g_lt (fun h1 h2 => pt_cmpR op_lt h1 h2 (nomark _)) (px_F (po_b (g_len K) (fun h => pe_callB (cLen K) (by rfl) A.b_len (by decide +kernel) h) (pxa_cons (px_var (pv 1)) pxa_nil))) px_int) (pxb_one (pxs_ret (po_U (px_F (po_if (pxt_2 (g_eq K) (fun h1 h2 => pt_cmpR (kEqD K hu64) h1 h2 (nomark _)) (px_F (po_b (g_len K) (fun h => pe_callB (cLen K) (by rfl) A.b_len (by decide +kernel) h) (pxa_cons (px_var (pv 1)) pxa_nil))) px_int) (po_Mk (make_sp A.mk_Schema (ok_Schema___init__ A 1) (hr.mono (by decide)) rfl A.g_Schema) (pxa_cons (px_F (po_2 (g_ix K) (fun h1 h2 => pe_ix (ixA K) h1 h2 (fun _ _ => rfl)) (px_var (pv 1)) px_int)) pxa_nil)) (po_Mk (make_sp A.mk_Schema (ok_Schema___init__ A 2) (hr.mono (by decide)) rfl A.g_Schema) (pxa_cons (px_F (po_2 (g_ix K) (fun h1 h2 => pe_ix (ixA K) h1 h2 (fun _ _ => rfl)) (px_var (pv 1)) px_int)) (pxa_cons (px_F (po_2 (g_ix K) (fun h1 h2 => pe_ix (ixA K) h1 h2 (fun _ _ => rfl)) (px_var (pv 1)) px_int)) pxa_nil)))))))) pxb_nil)
      (pxb_one (pxs_ret (po_U (px_F (po_if (pxt_2 (g_eq K) (fun h1 h2 => pt_cmpR (kEqD K hu64) h1 h2 (nomark _)) (px_F (po_b (g_len K) (fun h => pe_callB (cLen K) (by rfl) A.b_len (by decide +kernel) h) (pxa_cons (px_var (pv 1)) pxa_nil))) px_int) (po_Mk (make_sp A.mk_Schema (ok_Schema___init__ A 3) (hr.mono (by decide)) rfl A.g_Schema) (pxa_cons (px_F (po_2 (g_ix K) (fun h1 h2 => pe_ix (ixA K) h1 h2 (fun _ _ => rfl)) (px_var (pv 1)) px_int)) (pxa_cons (px_F (po_2 (g_ix K) (fun h1 h2 => pe_ix (ixA K) h1 h2 (fun _ _ => rfl)) (px_var (pv 1)) px_int)) (pxa_cons (px_F (po_2 (g_ix K) (fun h1 h2 => pe_ix (ixA K) h1 h2 (fun _ _ => rfl)) (px_var (pv 1)) px_int)) pxa_nil)))) (po_Mk (make_sp A.mk_Schema (ok_Schema___init__ A 4) (hr.mono (by decide)) rfl A.g_Schema) (pxa_cons (px_F (po_2 (g_ix K) (fun h1 h2 => pe_ix (ixA K) h1 h2 (fun _ _ => rfl)) (px_var (pv 1)) px_int)) (pxa_cons (px_F (po_2 (g_ix K) (fun h1 h2 => pe_ix (ixA K) h1 h2 (fun _ _ => rfl)) (px_var (pv 1)) px_int)) (pxa_cons (px_F (po_2 (g_ix K) (fun h1 h2 => pe_ix (ixA K) h1 h2 (fun _ _ => rfl)) (px_var (pv 1)) px_int)) (pxa_cons (px_F (po_2 (g_ix K) (fun h1 h2 => pe_ix (ixA K) h1 h2 (fun _ _ => rfl)) (px_var (pv 1)) px_int)) pxa_nil))))))))))))
/-! _law_made_database -/
def b__law_made_database (K : PySem.W.Frag) (cs : Cs) : Sx :=
    (sSeq (sSetO 2 (xMkDb cs.Database 1 (i_Database___init__ K cs) (xCons (xF (xP 1 (m__law_made_schema K cs) (xCons (xV 0) xNil))) xNil)))
    (sSeq (sFor (iA (xV 0)) (gT 2 (gsC (gN 3) (gsC (gN 4) gsN))) (sSetS cs.Database (true, 3, m_Database___setitem__ K cs) (xV 2) (xV 3) (xF (xOp dgG (xV 1) (xV 3)))))
    (sRet (xU (xV 2)))))
def m__law_made_database (K : PySem.W.Frag) (cs : Cs) : MF := mk true 5 (b__law_made_database K cs)
theorem ok__law_made_database (A : All K mg cs) : FnOk P w K mg base (L2.CX P w) 7 A.a__law_made_database A.d__law_made_database p__law_made_database (spM true 2 (m__law_made_database K cs)) := by
  refine fnM A.F__law_made_database sc__law_made_database (by decide) fun cdv A' outer s H E hr => ?_
  have hu := hu_of hr
  have hu0 := hr.units0
  have hu64 := hr.units
  have hu65 := hr.u65
  exact (pxb_cons (pxs_setO (fun h => ps_set (i := 2) sc__law_made_database.nd rfl (Or.inl rfl) h) (po_MkDb (make_sp A.mk_Database (fnS_of (ok_Database___init__ A) A.B_Database___init__) (hr.mono (by decide)) rfl A.g_Database) (pxa_cons (px_F (po_P (call_sp (ok__law_made_schema A) (hr.mono (by decide)) rfl A.D__law_made_schema.m A.D__law_made_schema.k A.D__law_made_schema.b) (pxa_cons (px_var (pv 0)) pxa_nil))) pxa_nil)))
      (pxb_cons (pxs_for (fun h1 h2 h3 => ps_for (passes_of rfl) rfl h1 h2 h3) (pxi_any (px_var (pv 0))) (pxg_tup rfl (pxgs_cons (pxg_name (pg_name (i := 3) sc__law_made_database.nd rfl (Or.inl rfl))) (pxgs_cons (pxg_name (pg_name (i := 4) sc__law_made_database.nd rfl (Or.inl rfl))) pxgs_nil))) (pxb_one (pxs_setS (setS_ok ⟨A.M_Database___setitem__.at_, A.M_Database___setitem__.fn⟩ A.nq_Database (ok_Database___setitem__ A) (hr.mono (by decide)) A.B_Database___setitem__) (px_var (pv 2)) (px_var (pv 3)) (px_F (po_2 g_dg (fun h1 h2 => pe_dget hu h1 h2 (fun _ _ => rfl)) (px_var (pv 1)) (px_var (pv 3)))))))
      (pxb_one (pxs_ret (po_U (px_var (pv 2)))))))
/-! _law_schema_drawn -/
def b__law_schema_drawn (K : PySem.W.Frag) (cs : Cs) : Sx :=
    (sSeq (sSet 3 (xE true 2 (m__law_words K cs) (xCons (xV 0) (xCons (xC (.int 11)) xNil))))
    (sSeq (sPar2 5 6 (oCons (xU (xF (xLst (xCons (xF (xTup (xCons (xF (xOp ixD (xV 3) (xC (.int 8)))) (xCons (xF (xOp ixD (xV 3) (xC (.int 9)))) xNil)))) (xCons (xF (xTup (xCons (xF (xOp ixD (xV 3) (xC (.int 10)))) (xCons (xF (xOp ixD (xV 3) (xC (.int 8)))) (xCons (xF (xOp ixD (xV 3) (xC (.int 9)))) xNil))))) xNil))))) (oCons (xLst xNil) oNil)))
    (sSeq (sFor (iR1 (xCons (xF (xOp addG (xC (.int 1)) (xF (xE true 2 (m__law_draw) (xCons (xV 0) (xCons (xV 1) xNil)))))) xNil)) (gN 4) (sSeq (sSetO 7 (xLst xNil))
    (sSeq (sFor (iA (xF (xSl (xF (xE true 2 (m__law_shuffled K cs) (xCons (xV 0) (xCons (xF (xSl (xV 3) (pSo (xC (.int 4))) (pSo (xC (.int 8))))) xNil)))) pNo (pSo (xF (xOp addG (xC (.int 1)) (xF (xE true 2 (m__law_draw) (xCons (xV 0) (xCons (xV 2) xNil)))))))))) (gN 8) (sApp 7 (xF (xTup (xCons (xV 8) (xCons (xF (xE true 2 (m__law_pick K cs) (xCons (xV 0) (xCons (xF (xLst (xCons (xC .non) (xCons (xC .non) (xCons (xF (xOp ixD (xV 5) (xC (.int 0)))) (xCons (xF (xOp ixD (xV 5) (xC (.int 1)))) xNil)))))) xNil)))) xNil))))))
    (sApp 6 (xF (xTup (xCons (xF (xOp ixD (xV 3) (xV 4))) (xCons (xV 7) xNil))))))))
    (sRet (xU (xV 6))))))
def m__law_schema_drawn (K : PySem.W.Frag) (cs : Cs) : MF := mk true 9 (b__law_schema_drawn K cs)
theorem ok__law_schema_drawn (A : All K mg cs) : FnOk P w K mg base (L2.CX P w) 4 A.a__law_schema_drawn A.d__law_schema_drawn p__law_schema_drawn (spM true 3 (m__law_schema_drawn K cs)) := by
  refine fnM A.F__law_schema_drawn sc__law_schema_drawn (by decide) fun cdv A' outer s H E hr => ?_
  have hu := hu_of hr
  have hu0 := hr.units0
  have hu64 := hr.units
  have hu65 := hr.u65
  exact (pxb_cons (pxs_set (fun h => ps_set (i := 3) sc__law_schema_drawn.nd rfl (Or.inl rfl) h) (po_E (call_sp (ok__law_words A) (hr.mono (by decide)) rfl A.D__law_words.m A.D__law_words.k A.D__law_words.b) (pxa_cons (px_var (pv 0)) (pxa_cons px_int pxa_nil))))
      (pxb_cons (pxs_par2 (fun h => ps_par (i := 5) (j := 6) (by rfl) sc__law_schema_drawn.nd rfl rfl (by decide) rfl rfl h (by rfl)) (pao_cons (po_U (px_F (po_lst (pxa_cons (px_F (po_tup (pxa_cons (px_F (po_2 (g_ix K) (fun h1 h2 => pe_ix (ixA K) h1 h2 (fun _ _ => rfl)) (px_var (pv 3)) px_int)) (pxa_cons (px_F (po_2 (g_ix K) (fun h1 h2 => pe_ix (ixA K) h1 h2 (fun _ _ => rfl)) (px_var (pv 3)) px_int)) pxa_nil)))) (pxa_cons (px_F (po_tup (pxa_cons (px_F (po_2 (g_ix K) (fun h1 h2 => pe_ix (ixA K) h1 h2 (fun _ _ => rfl)) (px_var (pv 3)) px_int)) (pxa_cons (px_F (po_2 (g_ix K) (fun h1 h2 => pe_ix (ixA K) h1 h2 (fun _ _ => rfl)) (px_var (pv 3)) px_int)) (pxa_cons (px_F (po_2 (g_ix K) (fun h1 h2 => pe_ix (ixA K) h1 h2 (fun _ _ => rfl)) (px_var (pv 3)) px_int)) pxa_nil))))) pxa_nil))))) (pao_cons (po_lst pxa_nil) pao_nil)))
      (pxb_cons (pxs_for (fun h1 h2 h3 => ps_for (passes_of rfl) rfl h1 h2 h3) (pxi_r1 (fun h => pi_range1 (by rfl) A.b_range h) (pxa_cons (px_F (po_2 (g_add K) (fun h1 h2 => pe_op (op_addA K) h1 h2) px_int (px_F (po_E (call_sp (ok__law_draw A) (hr.mono (by decide)) rfl A.D__law_draw.m A.D__law_draw.k A.D__law_draw.b) (pxa_cons (px_var (pv 0)) (pxa_cons (px_var (pv 1)) pxa_nil)))))) pxa_nil)) (pxg_name (pg_name (i := 4) sc__law_schema_drawn.nd rfl (Or.inl rfl))) (pxb_cons (pxs_setO (fun h => ps_set (i := 7) sc__law_schema_drawn.nd rfl (Or.inl rfl) h) (po_lst pxa_nil))
      (pxb_cons (pxs_for (fun h1 h2 h3 => ps_for (passes_of rfl) rfl h1 h2 h3) (pxi_any (px_F (po_sl K (fun h1 h2 h3 => pe_slice (slA K) h1 h2 h3) (px_F (po_E (call_sp (ok__law_shuffled A) (hr.mono (by decide)) rfl A.D__law_shuffled.m A.D__law_shuffled.k A.D__law_shuffled.b) (pxa_cons (px_var (pv 0)) (pxa_cons (px_F (po_sl K (fun h1 h2 h3 => pe_slice (slA K) h1 h2 h3) (px_var (pv 3)) (pxp_so px_int) (pxp_so px_int))) pxa_nil)))) pxp_no (pxp_so (px_F (po_2 (g_add K) (fun h1 h2 => pe_op (op_addA K) h1 h2) px_int (px_F (po_E (call_sp (ok__law_draw A) (hr.mono (by decide)) rfl A.D__law_draw.m A.D__law_draw.k A.D__law_draw.b) (pxa_cons (px_var (pv 0)) (pxa_cons (px_var (pv 2)) pxa_nil)))))))))) (pxg_name (pg_name (i := 8) sc__law_schema_drawn.nd rfl (Or.inl rfl))) (pxb_one (pxs_app (ee := .Name "" ⟨0, 0, 0, 0⟩) (fun h => ps_expr (pe_bm PySem.F.plainAttrs_list PySem.F.slot_list_append PySem.F.type_list_append mt_append (pv 7) h)) (pxa_cons (px_F (po_tup (pxa_cons (px_var (pv 8)) (pxa_cons (px_F (po_E (call_sp (ok__law_pick A) (hr.mono (by decide)) rfl A.D__law_pick.m A.D__law_pick.k A.D__law_pick.b) (pxa_cons (px_var (pv 0)) (pxa_cons (px_F (po_lst (pxa_cons px_non (pxa_cons px_non (pxa_cons (px_F (po_2 (g_ix K) (fun h1 h2 => pe_ix (ixA K) h1 h2 (fun _ _ => rfl)) (px_var (pv 5)) px_int)) (pxa_cons (px_F (po_2 (g_ix K) (fun h1 h2 => pe_ix (ixA K) h1 h2 (fun _ _ => rfl)) (px_var (pv 5)) px_int)) pxa_nil)))))) pxa_nil)))) pxa_nil)))) pxa_nil))))
      (pxb_one (pxs_app (ee := .Name "" ⟨0, 0, 0, 0⟩) (fun h => ps_expr (pe_bm PySem.F.plainAttrs_list PySem.F.slot_list_append PySem.F.type_list_append mt_append (pv 6) h)) (pxa_cons (px_F (po_tup (pxa_cons (px_F (po_2 (g_ix K) (fun h1 h2 => pe_ix (ixA K) h1 h2 (fun _ _ => rfl)) (px_var (pv 3)) (px_var (pv 4)))) (pxa_cons (px_var (pv 7)) pxa_nil)))) pxa_nil))))))
      (pxb_one (pxs_ret (po_U (px_var (pv 6))))))))
/-! _law_names -/
def b__law_names (K : PySem.W.Frag) (cs : Cs) : Sx :=
    (sRet (xU (xF (xE true 2 (m__law_words K cs) (xCons (xV 0) (xCons (xV 1) xNil))))))
def m__law_names (K : PySem.W.Frag) (cs : Cs) : MF := mk true 2 (b__law_names K cs)
theorem ok__law_names (A : All K mg cs) : FnOk P w K mg base (L2.CX P w) 4 A.a__law_names A.d__law_names p__law_names (spM true 2 (m__law_names K cs)) := by
  refine fnM A.F__law_names sc__law_names (by decide) fun cdv A' outer s H E hr => ?_
  have hu := hu_of hr
  have hu0 := hr.units0
  have hu64 := hr.units
  have hu65 := hr.u65
  exact (pxb_one (pxs_ret (po_U (px_F (po_E (call_sp (ok__law_words A) (hr.mono (by decide)) rfl A.D__law_words.m A.D__law_words.k A.D__law_words.b) (pxa_cons (px_var (pv 0)) (pxa_cons (px_var (pv 1)) pxa_nil)))))))
/-! _law_row_drawn -/
def b__law_row_drawn (K : PySem.W.Frag) (cs : Cs) : Sx :=
    (sRet (xU (xF (xB tupG (xCons (xF (xLc (iA (xV 1)) (gT 2 (gsC (gN 3) (gsC (gN 4) gsN))) xYes (xF (xE true 2 (m__law_pick K cs) (xCons (xV 0) (xCons (xF (xIfO (xTO (xOp isNG (xV 4) (xC .non))) (xU (xV 2)) (xB listG (xCons (xV 4) xNil)))) xNil)))) [3, 4])) xNil)))))
def m__law_row_drawn (K : PySem.W.Frag) (cs : Cs) : MF := mk true 5 (b__law_row_drawn K cs)
theorem ok__law_row_drawn (A : All K mg cs) : FnOk P w K mg base (L2.CX P w) 3 A.a__law_row_drawn A.d__law_row_drawn p__law_row_drawn (spM true 3 (m__law_row_drawn K cs)) := by
  refine fnM A.F__law_row_drawn sc__law_row_drawn (by decide) fun cdv A' outer s H E hr => ?_
  have hu := hu_of hr
  have hu0 := hr.units0
  have hu64 := hr.units
  have hu65 := hr.u65
  exact (pxb_one (pxs_ret (po_U (px_F (po_b (g_tup K) (fun h => pe_callTy (cTuple K rfl) (by rfl) A.b_tuple (by decide +kernel) h) (pxa_cons (px_F (po_lc (own := [("_law_word", 3), ("_law_marks", 4)]) (is := [3, 4]) rfl sc__law_row_drawn.nd (pxi_any (px_var (pv 1))) (blkOk_by (own := [("_law_word", 3), ("_law_marks", 4)]) (N := N__law_row_drawn) (sc := defScope s__law_row_drawn) (by decide +kernel)) (by decide) (fun _ _ _ _ _ => (pxg_tup rfl (pxgs_cons (pxg_name (pg_name (i := 3) sc__law_row_drawn.nd rfl (Or.inl rfl))) (pxgs_cons (pxg_name (pg_name (i := 4) sc__law_row_drawn.nd rfl (Or.inl rfl))) pxgs_nil)))) (fun _ _ _ _ _ => pxts_nil) (fun _ _ _ _ _ => (px_F (po_E (call_sp (ok__law_pick A) (hr.mono (by decide)) rfl A.D__law_pick.m A.D__law_pick.k A.D__law_pick.b) (pxa_cons (px_var (pv 0)) (pxa_cons (px_F (po_if (pxt_2 g_isN (fun h1 h2 => pt_cmpR op_isN h1 h2 (nomark _)) (px_var (pv 4)) px_non) (po_U (px_var (pv 2))) (po_b (g_list K) (fun h => pe_callTy (kList K) (by rfl) A.b_list (by decide +kernel) h) (pxa_cons (px_var (pv 4)) pxa_nil)))) pxa_nil))))))) pxa_nil))))))
/-! _law_rows_drawn -/
def b__law_rows_drawn (K : PySem.W.Frag) (cs : Cs) : Sx :=
    (sSeq (sSetO 4 xNewK)
    (sSeq (sFor (iA (xV 1)) (gT 2 (gsC (gN 5) (gsC (gN 6) gsN))) (sSeq (sSet 7 (xLc (iR1 (xCons (xF (xE true 2 (m__law_draw) (xCons (xV 0) (xCons (xF (xOp addG (xV 3) (xC (.int 1)))) xNil)))) xNil)) (gN 8) xYes (xF (xE true 3 (m__law_row_drawn K cs) (xCons (xV 0) (xCons (xV 6) (xCons (xV 2) xNil))))) [8]))
    (sDput 4 (xV 5) (xF (xLc (iR1 (xCons (xF (xB lenG (xCons (xV 7) xNil))) xNil)) (gN 8) (xTO (xOp (inG true) (xF (xOp ixD (xV 7) (xV 8))) (xF (xSl (xV 7) pNo (pSo (xV 8)))))) (xF (xOp ixD (xV 7) (xV 8))) [8])))))
    (sRet (xU (xV 4)))))
def m__law_rows_drawn (K : PySem.W.Frag) (cs : Cs) : MF := mk true 9 (b__law_rows_drawn K cs)
theorem ok__law_rows_drawn (A : All K mg cs) : FnOk P w K mg base (L2.CX P w) 4 A.a__law_rows_drawn A.d__law_rows_drawn p__law_rows_drawn (spM true 4 (m__law_rows_drawn K cs)) := by
  refine fnM A.F__law_rows_drawn sc__law_rows_drawn (by decide) fun cdv A' outer s H E hr => ?_
  have hu := hu_of hr
  have hu0 := hr.units0
  have hu64 := hr.units
  have hu65 := hr.u65
  exact (pxb_cons (pxs_setO (fun h => ps_set (i := 4) sc__law_rows_drawn.nd rfl (Or.inl rfl) h) po_newK)
      (pxb_cons (pxs_for (fun h1 h2 h3 => ps_for (passes_of rfl) rfl h1 h2 h3) (pxi_any (px_var (pv 1))) (pxg_tup rfl (pxgs_cons (pxg_name (pg_name (i := 5) sc__law_rows_drawn.nd rfl (Or.inl rfl))) (pxgs_cons (pxg_name (pg_name (i := 6) sc__law_rows_drawn.nd rfl (Or.inr rfl))) pxgs_nil))) (pxb_cons (pxs_set (fun h => ps_set (i := 7) sc__law_rows_drawn.nd rfl (Or.inr rfl) h) (po_lc (own := [("_law_k", 8)]) (is := [8]) rfl sc__law_rows_drawn.nd (pxi_r1 (fun h => pi_range1 (by rfl) A.b_range h) (pxa_cons (px_F (po_E (call_sp (ok__law_draw A) (hr.mono (by decide)) rfl A.D__law_draw.m A.D__law_draw.k A.D__law_draw.b) (pxa_cons (px_var (pv 0)) (pxa_cons (px_F (po_2 (g_add K) (fun h1 h2 => pe_op (op_addA K) h1 h2) (px_var (pv 3)) px_int)) pxa_nil)))) pxa_nil)) (blkOk_by (own := [("_law_k", 8)]) (N := N__law_rows_drawn) (sc := defScope s__law_rows_drawn) (by decide +kernel)) (by decide) (fun _ _ _ _ _ => (pxg_name (pg_name (i := 8) sc__law_rows_drawn.nd rfl (Or.inl rfl)))) (fun _ _ _ _ _ => pxts_nil) (fun _ _ _ _ _ => (px_F (po_E (call_sp (ok__law_row_drawn A) (hr.mono (by decide)) rfl A.D__law_row_drawn.m A.D__law_row_drawn.k A.D__law_row_drawn.b) (pxa_cons (px_var (pv 0)) (pxa_cons (px_var (pv 6)) (pxa_cons (px_var (pv 2)) pxa_nil))))))))
      (pxb_one (pxs_dput (fun h1 h2 => ps_dput hu (pv 4) h1 h2 rfl) (px_var (pv 5)) (px_F (po_lc (own := [("_law_k", 8)]) (is := [8]) rfl sc__law_rows_drawn.nd (pxi_r1 (fun h => pi_range1 (by rfl) A.b_range h) (pxa_cons (px_F (po_b (g_len K) (fun h => pe_callB (cLen K) (by rfl) A.b_len (by decide +kernel) h) (pxa_cons (px_var (pv 7)) pxa_nil))) pxa_nil)) (blkOk_by (own := [("_law_k", 8)]) (N := N__law_rows_drawn) (sc := defScope s__law_rows_drawn) (by decide +kernel)) (by decide) (fun _ _ _ _ _ => (pxg_name (pg_name (i := 8) sc__law_rows_drawn.nd rfl (Or.inl rfl)))) (fun _ _ _ _ _ => (pxts_one (pxt_2 (g_notInG K) (fun h1 h2 => pt_cmpR (op_notInX K hu65) h1 h2 rfl) (px_F (po_2 (g_ix K) (fun h1 h2 => pe_ix (ixA K) h1 h2 (fun _ _ => rfl)) (px_var (pv 7)) (px_var (pv 8)))) (px_F (po_sl K (fun h1 h2 h3 => pe_slice (slA K) h1 h2 h3) (px_var (pv 7)) pxp_no (pxp_so (px_var (pv 8)))))))) (fun _ _ _ _ _ => (px_F (po_2 (g_ix K) (fun h1 h2 => pe_ix (ixA K) h1 h2 (fun _ _ => rfl)) (px_var (pv 7)) (px_var (pv 8)))))))))))
      (pxb_one (pxs_ret (po_U (px_var (pv 4)))))))
/-! _law_lets -/
def b__law_lets (K : PySem.W.Frag) (cs : Cs) : Sx :=
    (sSeq (sSetO 3 xNewK)
    (sSeq (sFor (iA (xV 1)) (gT 2 (gsC (gN 4) (gsC (gN 5) gsN))) (sSeq (sSet 6 (xIfO (xTO (xOp isNG (xV 5) (xC .non))) (xOp addG (xV 2) (xF (xLst (xCons (xC (.str "z")) xNil)))) (xOp addG (xF (xB listG (xCons (xV 5) xNil))) (xF (xSl (xV 2) pNo (pSo (xC (.int 1))))))))
    (sIf (xTO (xOp eqG (xF (xE true 2 (m__law_draw) (xCons (xV 0) (xCons (xC (.int 2)) xNil)))) (xC (.int 0)))) (sSeq (sSet 7 (xSl (xF (xE true 2 (m__law_shuffled K cs) (xCons (xV 0) (xCons (xV 6) xNil)))) pNo (pSo (xF (xE true 2 (m__law_draw) (xCons (xV 0) (xCons (xC (.int 3)) xNil)))))))
    (sDput 3 (xV 4) (xF (xE true 2 (m__law_pick K cs) (xCons (xV 0) (xCons (xF (xLst (xCons (xF (xE true 2 (m__law_pick K cs) (xCons (xV 0) (xCons (xV 6) xNil)))) (xCons (xV 7) (xCons (xF (xB tupG (xCons (xF (xOp addG (xV 7) (xV 7))) xNil))) xNil))))) xNil)))))) sNx)))
    (sRet (xU (xV 3)))))
def m__law_lets (K : PySem.W.Frag) (cs : Cs) : MF := mk true 8 (b__law_lets K cs)
theorem ok__law_lets (A : All K mg cs) : FnOk P w K mg base (L2.CX P w) 3 A.a__law_lets A.d__law_lets p__law_lets (spM true 3 (m__law_lets K cs)) := by
  refine fnM A.F__law_lets sc__law_lets (by decide) fun cdv A' outer s H E hr => ?_
  have hu := hu_of hr
  have hu0 := hr.units0
  have hu64 := hr.units
  have hu65 := hr.u65
  exact (pxb_cons (pxs_setO (fun h => ps_set (i := 3) sc__law_lets.nd rfl (Or.inl rfl) h) po_newK)
      (pxb_cons (pxs_for (fun h1 h2 h3 => ps_for (passes_of rfl) rfl h1 h2 h3) (pxi_any (px_var (pv 1))) (pxg_tup rfl (pxgs_cons (pxg_name (pg_name (i := 4) sc__law_lets.nd rfl (Or.inl rfl))) (pxgs_cons (pxg_name (pg_name (i := 5) sc__law_lets.nd rfl (Or.inl rfl))) pxgs_nil))) (pxb_cons (pxs_set (fun h => ps_set (i := 6) sc__law_lets.nd rfl (Or.inl rfl) h) (po_if (pxt_2 g_isN (fun h1 h2 => pt_cmpR op_isN h1 h2 (nomark _)) (px_var (pv 5)) px_non) (po_2 (g_add K) (fun h1 h2 => pe_op (op_addA K) h1 h2) (px_var (pv 2)) (px_F (po_lst (pxa_cons px_str pxa_nil)))) (po_2 (g_add K) (fun h1 h2 => pe_op (op_addA K) h1 h2) (px_F (po_b (g_list K) (fun h => pe_callTy (kList K) (by rfl) A.b_list (by decide +kernel) h) (pxa_cons (px_var (pv 5)) pxa_nil))) (px_F (po_sl K (fun h1 h2 h3 => pe_slice (slA K) h1 h2 h3) (px_var (pv 2)) pxp_no (pxp_so px_int))))))
      (pxb_one (pxs_if (pxt_2 (g_eq K) (fun h1 h2 => pt_cmpR (kEqD K hu64) h1 h2 (nomark _)) (px_F (po_E (call_sp (ok__law_draw A) (hr.mono (by decide)) rfl A.D__law_draw.m A.D__law_draw.k A.D__law_draw.b) (pxa_cons (px_var (pv 0)) (pxa_cons px_int pxa_nil)))) px_int) (pxb_cons (pxs_set (fun h => ps_set (i := 7) sc__law_lets.nd rfl (Or.inl rfl) h) (po_sl K (fun h1 h2 h3 => pe_slice (slA K) h1 h2 h3) (px_F (po_E (call_sp (ok__law_shuffled A) (hr.mono (by decide)) rfl A.D__law_shuffled.m A.D__law_shuffled.k A.D__law_shuffled.b) (pxa_cons (px_var (pv 0)) (pxa_cons (px_var (pv 6)) pxa_nil)))) pxp_no (pxp_so (px_F (po_E (call_sp (ok__law_draw A) (hr.mono (by decide)) rfl A.D__law_draw.m A.D__law_draw.k A.D__law_draw.b) (pxa_cons (px_var (pv 0)) (pxa_cons px_int pxa_nil)))))))
      (pxb_one (pxs_dput (fun h1 h2 => ps_dput hu (pv 3) h1 h2 rfl) (px_var (pv 4)) (px_F (po_E (call_sp (ok__law_pick A) (hr.mono (by decide)) rfl A.D__law_pick.m A.D__law_pick.k A.D__law_pick.b) (pxa_cons (px_var (pv 0)) (pxa_cons (px_F (po_lst (pxa_cons (px_F (po_E (call_sp (ok__law_pick A) (hr.mono (by decide)) rfl A.D__law_pick.m A.D__law_pick.k A.D__law_pick.b) (pxa_cons (px_var (pv 0)) (pxa_cons (px_var (pv 6)) pxa_nil)))) (pxa_cons (px_var (pv 7)) (pxa_cons (px_F (po_b (g_tup K) (fun h => pe_callTy (cTuple K rfl) (by rfl) A.b_tuple (by decide +kernel) h) (pxa_cons (px_F (po_2 (g_add K) (fun h1 h2 => pe_op (op_addA K) h1 h2) (px_var (pv 7)) (px_var (pv 7)))) pxa_nil))) pxa_nil))))) pxa_nil))))))) pxb_nil))))
      (pxb_one (pxs_ret (po_U (px_var (pv 3)))))))
/-! law -/
def b_law (K : PySem.W.Frag) (cs : Cs) : Sx :=
    (sSeq (sSet 1 (xE true 1 (m__law_pen K) (xCons (xV 0) xNil)))
    (sSeq (sFor (iR1 (xCons (xC (.int 5)) xNil)) (gN 2) (sSeq (sAsg (xTup (xCons (xF (xE true 3 (m__law_schema_drawn K cs) (xCons (xV 1) (xCons (xC (.int 3)) (xCons (xC (.int 3)) xNil))))) (xCons (xF (xE true 2 (m__law_names K cs) (xCons (xV 1) (xCons (xC (.int 3)) xNil)))) xNil))) (gT 2 (gsC (gN 6) (gsC (gN 7) gsN))))
    (sSeq (sSet 3 (xE true 4 (m__law_rows_drawn K cs) (xCons (xV 1) (xCons (xV 6) (xCons (xV 7) (xCons (xC (.int 9)) xNil))))))
    (sSeq (sSet 4 (xE true 2 (m__law_made_database K cs) (xCons (xV 6) (xCons (xV 3) xNil))))
    (sFor (iR1 (xCons (xC (.int 8)) xNil)) (gN 5) (sSeq (sAsg (xE true 2 (m__law_pick K cs) (xCons (xV 1) (xCons (xV 6) xNil))) (gT 2 (gsC (gN 11) (gsC (gN 12) gsN))))
    (sSeq (sSet 8 (xE true 3 (m__law_lets K cs) (xCons (xV 1) (xCons (xV 12) (xCons (xV 7) xNil)))))
    (sSeq (sSet 9 (xB dictG (xCons (xF (xLc (iA (xV 8)) (gN 13) xYes (xF (xTup (xCons (xV 13) (xCons (xF (xIfO (xT (xF (xB (isiG K) (xCons (xF (xOp dgG (xV 8) (xV 13))) (xCons (xC (.ty "str")) xNil))))) (xLst (xCons (xF (xOp dgG (xV 8) (xV 13))) xNil)) (xOp dgG (xV 8) (xV 13)))) xNil)))) [13])) xNil)))
    (sSeq (sSet 10 (xB lenG (xCons (xF (xLc (iA (xF (xOp dgG (xV 3) (xV 11)))) (gN 14) (xT (xF (xP 4 (m__law_row_fits K cs) (xCons (xV 6) (xCons (xV 11) (xCons (xV 14) (xCons (xV 9) xNil))))))) (xV 14) [14])) xNil)))
    (sSeq (sIf (xTO (xOp neG (xF (xB reprG (xCons (xF (xM "count" (mt_count K cs) (xV 4) (xCons (xV 11) (xCons (xV 8) xNil)))) xNil))) (xF (xB reprG (xCons (xV 10) xNil))))) (sRet (xU (xC (.bl false)))) sNx)
    (sIf (xTO (xOp neG (xF (xM "count" (mt_count K cs) (xV 4) (xCons (xV 11) (xCons (xF xNewK) xNil)))) (xF (xB lenG (xCons (xF (xOp dgG (xV 3) (xV 11))) xNil))))) (sRet (xU (xC (.bl false)))) sNx)))))))))))
    (sRet (xU (xC (.bl true))))))
def m_law (K : PySem.W.Frag) (cs : Cs) : MF := mk true 15 (b_law K cs)
theorem ok_law (A : All K mg cs) : FnOk P w K mg base (L2.CX P w) 8 A.a_law A.d_law p_law (spM true 1 (m_law K cs)) := by
  refine fnM A.F_law sc_law (by decide) fun cdv A' outer s H E hr => ?_
  have hu := hu_of hr
  have hu0 := hr.units0
  have hu64 := hr.units
  have hu65 := hr.u65
  exact (pxb_cons (pxs_set (fun h => ps_set (i := 1) sc_law.nd rfl (Or.inl rfl) h) (po_E (call_sp (ok__law_pen A) (hr.mono (by decide)) rfl A.D__law_pen.m A.D__law_pen.k A.D__law_pen.b) (pxa_cons (px_var (pv 0)) pxa_nil)))
      (pxb_cons (pxs_for (fun h1 h2 h3 => ps_for (passes_of rfl) rfl h1 h2 h3) (pxi_r1 (fun h => pi_range1 (by rfl) A.b_range h) (pxa_cons px_int pxa_nil)) (pxg_name (pg_name (i := 2) sc_law.nd rfl (Or.inl rfl))) (pxb_cons (pxs_asg (fun h1 h2 => ps_asg h1 h2) (po_tup (pxa_cons (px_F (po_E (call_sp (ok__law_schema_drawn A) (hr.mono (by decide)) rfl A.D__law_schema_drawn.m A.D__law_schema_drawn.k A.D__law_schema_drawn.b) (pxa_cons (px_var (pv 1)) (pxa_cons px_int (pxa_cons px_int pxa_nil))))) (pxa_cons (px_F (po_E (call_sp (ok__law_names A) (hr.mono (by decide)) rfl A.D__law_names.m A.D__law_names.k A.D__law_names.b) (pxa_cons (px_var (pv 1)) (pxa_cons px_int pxa_nil)))) pxa_nil))) (pxg_tup rfl (pxgs_cons (pxg_name (pg_name (i := 6) sc_law.nd rfl (Or.inr rfl))) (pxgs_cons (pxg_name (pg_name (i := 7) sc_law.nd rfl (Or.inl rfl))) pxgs_nil))))
      (pxb_cons (pxs_set (fun h => ps_set (i := 3) sc_law.nd rfl (Or.inl rfl) h) (po_E (call_sp (ok__law_rows_drawn A) (hr.mono (by decide)) rfl A.D__law_rows_drawn.m A.D__law_rows_drawn.k A.D__law_rows_drawn.b) (pxa_cons (px_var (pv 1)) (pxa_cons (px_var (pv 6)) (pxa_cons (px_var (pv 7)) (pxa_cons px_int pxa_nil))))))
      (pxb_cons (pxs_set (fun h => ps_set (i := 4) sc_law.nd rfl (Or.inl rfl) h) (po_E (call_sp (ok__law_made_database A) (hr.mono (by decide)) rfl A.D__law_made_database.m A.D__law_made_database.k A.D__law_made_database.b) (pxa_cons (px_var (pv 6)) (pxa_cons (px_var (pv 3)) pxa_nil))))
      (pxb_one (pxs_for (fun h1 h2 h3 => ps_for (passes_of rfl) rfl h1 h2 h3) (pxi_r1 (fun h => pi_range1 (by rfl) A.b_range h) (pxa_cons px_int pxa_nil)) (pxg_name (pg_name (i := 5) sc_law.nd rfl (Or.inl rfl))) (pxb_cons (pxs_asg (fun h1 h2 => ps_asg h1 h2) (po_E (call_sp (ok__law_pick A) (hr.mono (by decide)) rfl A.D__law_pick.m A.D__law_pick.k A.D__law_pick.b) (pxa_cons (px_var (pv 1)) (pxa_cons (px_var (pv 6)) pxa_nil))) (pxg_tup rfl (pxgs_cons (pxg_name (pg_name (i := 11) sc_law.nd rfl (Or.inr rfl))) (pxgs_cons (pxg_name (pg_name (i := 12) sc_law.nd rfl (Or.inl rfl))) pxgs_nil))))
      (pxb_cons (pxs_set (fun h => ps_set (i := 8) sc_law.nd rfl (Or.inr rfl) h) (po_E (call_sp (ok__law_lets A) (hr.mono (by decide)) rfl A.D__law_lets.m A.D__law_lets.k A.D__law_lets.b) (pxa_cons (px_var (pv 1)) (pxa_cons (px_var (pv 12)) (pxa_cons (px_var (pv 7)) pxa_nil)))))
      (pxb_cons (pxs_set (fun h => ps_set (i := 9) sc_law.nd rfl (Or.inr rfl) h) (po_b (g_dict K) (fun h => pe_callTy (cDict K rfl) (by rfl) A.b_dict (by decide +kernel) h) (pxa_cons (px_F (po_lc (own := [("_law_word", 13)]) (is := [13]) rfl sc_law.nd (pxi_any (px_var (pv 8))) (blkOk_by (own := [("_law_word", 13)]) (N := N_law) (sc := defScope s_law) (by decide +kernel)) (by decide) (fun _ _ _ _ _ => (pxg_name (pg_name (i := 13) sc_law.nd rfl (Or.inl rfl)))) (fun _ _ _ _ _ => pxts_nil) (fun _ _ _ _ _ => (px_F (po_tup (pxa_cons (px_var (pv 13)) (pxa_cons (px_F (po_if (pxt_val (px_F (po_b (g_isi K) (fun h => pe_callB (cIsi K) (by rfl) A.b_isinstance (by decide +kernel) h) (pxa_cons (px_F (po_2 g_dg (fun h1 h2 => pe_dget hu h1 h2 (fun _ _ => rfl)) (px_var (pv 8)) (px_var (pv 13)))) (pxa_cons (px_C (pe_bltn (v := .ty "str") (by rfl) A.b_str (by decide +kernel) rfl) fun _ _ _ => .ty _) pxa_nil))))) (po_lst (pxa_cons (px_F (po_2 g_dg (fun h1 h2 => pe_dget hu h1 h2 (fun _ _ => rfl)) (px_var (pv 8)) (px_var (pv 13)))) pxa_nil)) (po_2 g_dg (fun h1 h2 => pe_dget hu h1 h2 (fun _ _ => rfl)) (px_var (pv 8)) (px_var (pv 13))))) pxa_nil))))))) pxa_nil)))
      (pxb_cons (pxs_set (fun h => ps_set (i := 10) sc_law.nd rfl (Or.inl rfl) h) (po_b (g_len K) (fun h => pe_callB (cLen K) (by rfl) A.b_len (by decide +kernel) h) (pxa_cons (px_F (po_lc (own := [("_law_row", 14)]) (is := [14]) rfl sc_law.nd (pxi_any (px_F (po_2 g_dg (fun h1 h2 => pe_dget hu h1 h2 (fun _ _ => rfl)) (px_var (pv 3)) (px_var (pv 11))))) (blkOk_by (own := [("_law_row", 14)]) (N := N_law) (sc := defScope s_law) (by decide +kernel)) (by decide) (fun _ _ _ _ _ => (pxg_name (pg_name (i := 14) sc_law.nd rfl (Or.inl rfl)))) (fun _ _ _ _ _ => (pxts_one (pxt_val (px_F (po_P (call_sp (ok__law_row_fits A) (hr.mono (by decide)) rfl A.D__law_row_fits.m A.D__law_row_fits.k A.D__law_row_fits.b) (pxa_cons (px_var (pv 6)) (pxa_cons (px_var (pv 11)) (pxa_cons (px_var (pv 14)) (pxa_cons (px_var (pv 9)) pxa_nil))))))))) (fun _ _ _ _ _ => (px_var (pv 14))))) pxa_nil)))
      (pxb_cons (pxs_if (pxt_2 (g_ne K) (fun h1 h2 => pt_cmpR (kNeD K hu64) h1 h2 (nomark _)) (px_F (po_b g_repr (fun h => pe_callB call_repr1 (by rfl) A.b_repr (by decide +kernel) h) (pxa_cons (px_F (po_M (mtok_count A (hr.mono (by decide))) (fun Ew tk {ta t} h1 h2 => pe_mC Ew tk h1 h2) (px_var (pv 4)) (pxa_cons (px_var (pv 11)) (pxa_cons (px_var (pv 8)) pxa_nil)))) pxa_nil))) (px_F (po_b g_repr (fun h => pe_callB call_repr1 (by rfl) A.b_repr (by decide +kernel) h) (pxa_cons (px_var (pv 10)) pxa_nil)))) (pxb_one (pxs_ret (po_U px_bl))) pxb_nil)
      (pxb_one (pxs_if (pxt_2 (g_ne K) (fun h1 h2 => pt_cmpR (kNeD K hu64) h1 h2 (nomark _)) (px_F (po_M (mtok_count A (hr.mono (by decide))) (fun Ew tk {ta t} h1 h2 => pe_mC Ew tk h1 h2) (px_var (pv 4)) (pxa_cons (px_var (pv 11)) (pxa_cons (px_F po_newK) pxa_nil)))) (px_F (po_b (g_len K) (fun h => pe_callB (cLen K) (by rfl) A.b_len (by decide +kernel) h) (pxa_cons (px_F (po_2 g_dg (fun h1 h2 => pe_dget hu h1 h2 (fun _ _ => rfl)) (px_var (pv 3)) (px_var (pv 11)))) pxa_nil)))) (pxb_one (pxs_ret (po_U px_bl))) pxb_nil)))))))))))))
      (pxb_one (pxs_ret (po_U px_bl)))))
end
end Q
/-! plain facts about the combinators -/
namespace Q
open PySem L2 PySem.Spec PyProof.Rows
/-- a list comprehension whose parts change nothing -/
theorem lcW_pure {tg : Tg} {tt : Tx} {f : Ex} {vs : List Nat} {Q : O → Ps → Prop} {st0 : Ps} (g : D → Option D) : ∀ (ds : List D) (acc : List D) (st : Ps), st.wp vs = st0 → acc.length + ds.length < sizeLine →
    (∀ d ∈ ds, ∀ (R1 : D → Ps → Prop) (R0 : Ps → Prop), (∀ st', st'.wp vs = st0 → match g d with | some y => R1 y st' | none => R0 st') → tg d st0 fun st2 => tt E0k st2 fun b st3 => if b = true then f E0k st3 fun r st4 => opt (frz st4 r) fun q => R1 q.1 q.2 else R0 st3) →
    Q (.lst (acc ++ ds.filterMap g)) st0 → lcW tg tt f vs Q ds acc st
  | [], acc, st, e, hl, h, hq => by
    unfold lcW
    rw [e]
    simpa using hq
  | d :: ds, acc, st, e, hl, h, hq => by
    unfold lcW
    rw [e]
    rw [List.length_cons] at hl
    refine h d List.mem_cons_self (fun y st' => acc.length < sizeLine ∧ lcW tg tt f vs Q ds (acc ++ [y]) st') (fun st' => lcW tg tt f vs Q ds acc st') fun st' e' => ?_
    cases q : g d with
    | none => exact lcW_pure g ds acc st' e' (by omega) (fun d' hd => h d' (List.mem_cons_of_mem _ hd)) (by rw [List.filterMap_cons, q] at hq; exact hq)
    | some y =>
      refine ⟨by omega, lcW_pure g ds (acc ++ [y]) st' e' (by rw [List.length_append, List.length_singleton]; omega) (fun d' hd => h d' (List.mem_cons_of_mem _ hd)) ?_⟩
      rw [List.filterMap_cons, q] at hq
      rw [List.append_assoc]
      exact hq
/-- a for statement: an invariant over what is left -/
theorem forW_inv {tg : Tg} {b : Sx} {E : EK} {K : En} (I : List D → Ps → Prop) (h0 : ∀ st, I [] st → K.nx st) (h1 : ∀ d ds st, I (d :: ds) st → tg d st fun st' => b E ⟨I ds, K.rt, K.nx, I ds⟩ st')
    (hm : ∀ (n n' : Ps → Prop), (∀ st, n st → n' st) → ∀ d st, (tg d st fun st' => b E ⟨n, K.rt, K.nx, n⟩ st') → tg d st fun st' => b E ⟨n', K.rt, K.nx, n'⟩ st') : ∀ (ds : List D) (st : Ps), I ds st → forW tg b E K ds st
  | [], st, h => h0 st h
  | d :: ds, st, h => hm _ _ (fun st' z => forW_inv I h0 h1 hm ds st' z) d st (h1 d ds st h)
end Q
/-! plain facts about texts -/
namespace Q
open PySem L2 PySem.Spec PyProof.Rows
theorem toPs_strs : ∀ ns : List Str, toPs (ns.map D.str) = some (ns.map PyData.str)
  | [] => rfl
  | n :: ns => by rw [List.map_cons, toPs, toPs_strs ns]; rfl
theorem eqv_str (a b : Str) : PyData.eqv (.str a) (.str b) = decide (a = b) := by
  unfold PyData.eqv
  by_cases h : a = b
  · subst h
    simp
  · simp [h]
theorem anyEq_strs (n : Str) : ∀ ns : List Str, ((ns.map PyData.str).any fun z => PyData.eqv z (.str n)) = decide (n ∈ ns)
  | [] => rfl
  | m :: ns => by
    rw [List.map_cons, List.any_cons, anyEq_strs n ns, eqv_str]
    by_cases h : m = n
    · subst h; simp
    · simp [h, Ne.symm h]
theorem shaped_str {n : Str} (h : PyData.strOk n = true) : SeqAt.shaped (.str n) = true := by
  unfold SeqAt.shaped PyData.canLay0 PyData.depth
  rw [h]
  rfl
theorem inD_strs (neg : Bool) {n : Str} {ns : List Str} (hn : PyData.strOk n = true) (hs : ∀ x ∈ ns, PyData.strOk x = true) : inD neg (.str n) (.lst (ns.map D.str)) = some (.d (.bl (if neg then !decide (n ∈ ns) else decide (n ∈ ns)))) := by
  show (match toP (.str n), toPs (ns.map D.str) with
    | some p, some ps => if SeqAt.shaped p && SeqAt.shaped (.list ps) then some (O.d (.bl (if neg then !(ps.any fun z => PyData.eqv z p) else ps.any fun z => PyData.eqv z p))) else none
    | _, _ => none) = _
  rw [toPs_strs]
  show (if (SeqAt.shaped (.str n) && SeqAt.shaped (.list (ns.map PyData.str))) = true then _ else _) = _
  rw [shaped_strs hs, shaped_str hn, anyEq_strs, Bool.and_true, if_pos rfl]
end Q
namespace Q
open PySem L2 PySem.Spec PyProof.Rows
variable {K : PySem.W.Frag} {cs : Cs}
theorem kit_tl : PySem.W.kitOne K (.type "tuple") (.type "list") = some false := by rfl
theorem kit_st : PySem.W.kitOne K (.type "str") (.type "tuple") = some false := by rfl
theorem kit_tt : PySem.W.kitOne K (.type "tuple") (.type "tuple") = some true := by rfl
theorem kit_ss : PySem.W.kitOne K (.type "str") (.type "str") = some true := by rfl
theorem bls_map {α : Type} (f : α → Bool) : ∀ xs : List α, blsD (xs.map fun x => D.bl (f x)) = some (xs.map f)
  | [] => rfl
  | x :: xs => by rw [List.map_cons, blsD, bls_map f xs]; rfl
theorem w_is_word {s : Str} (hw : wordB s = true) {E S Q} (h : Q (.d (.bl true)) S) : m_is_word K cs [.str s] E S Q := by
  have hw' := hw
  unfold wordB at hw'
  rw [Bool.and_eq_true, Bool.and_eq_true] at hw'
  obtain ⟨⟨h1, h8⟩, hl⟩ := hw'
  have h8' : (s.length : Int) ≤ 8 := of_decide_eq_true h8
  unfold m_is_word b_is_word
  simp only [mk, sRet, sRetN, sSeq, sNx, sIf, sSet, sSetO, sEx, xU, xF, xB, xCons, xNil, xV, xC, xMv, st0, opt, looks, look, frz, frzs, isiG, tyG, clsG, clssG, O.toD, xAnd, xOr, xNot, xIf, xIfO, xT, xTO, xNotT, xAndT, xOrT, xIfT, xYes, xOp, xUn, xTup, xLst, xCh, xLc, xDc, iA, itemsD, gN, gT, gsC, gsN, sFor, sAsg, isB, iiG0, lenG, listG, tupG, leG, ltG, geG, gtG, intG, Ps.wp, wipeO, xP, xE, cP, cE, isSc, List.map_cons, List.map_nil, List.cons_append, List.nil_append, List.length_cons, List.length_nil, List.getElem?_cons_zero, List.getElem?_cons_succ, List.replicate, List.set_cons_zero, List.set_cons_succ, Nat.reduceSub, Nat.reduceAdd, if_true, if_false, Bool.false_eq_true, reduceCtorEq, kit_ss, h1, h8]
  refine ⟨by rw [sizeLine_eq]; omega, ?_⟩
  refine lcW_pure (st0 := ⟨[O.d (D.str s), O.un], S, false, false⟩) (fun d => match d with | .str x => some (.bl (decide (x.cps.toList.headD 0 ∈ small.cps.toList))) | _ => none) _ _ _ rfl ?_ ?_ ?_
  · have e : s.cps.toList.length = s.length := Array.length_toList
    rw [List.length_map, e, sizeLine_eq, List.length_nil]
    omega
  · intro d hd R1 R0 hR
    obtain ⟨c, hc, rfl⟩ := List.mem_map.mp hd
    simp only [mk, sRet, sRetN, sSeq, sNx, sIf, sSet, sSetO, sEx, xU, xF, xB, xCons, xNil, xV, xC, xMv, st0, opt, looks, look, frz, frzs, isiG, tyG, clsG, clssG, O.toD, xAnd, xOr, xNot, xIf, xIfO, xT, xTO, xNotT, xAndT, xOrT, xIfT, xYes, xOp, xUn, xTup, xLst, xCh, xLc, xDc, iA, itemsD, gN, gT, gsC, gsN, sFor, sAsg, isB, iiG0, lenG, listG, tupG, leG, ltG, geG, gtG, intG, Ps.wp, wipeO, xP, xE, cP, cE, isSc, List.map_cons, List.map_nil, List.cons_append, List.nil_append, List.length_cons, List.length_nil, List.getElem?_cons_zero, List.getElem?_cons_succ, List.replicate, List.set_cons_zero, List.set_cons_succ, Nat.reduceSub, Nat.reduceAdd, if_true, if_false, Bool.false_eq_true, reduceCtorEq, inG, getD, inD]
    exact hR _ rfl
  · have e : List.filterMap (fun d => match d with | D.str x => some (D.bl (decide (x.cps.toList.headD 0 ∈ small.cps.toList))) | _ => none) (s.cps.toList.map fun c => D.str ⟨#[c]⟩) = s.cps.toList.map fun c => D.bl (lowC c) := by
      rw [List.filterMap_map]
      exact congrFun (List.filterMap_eq_map (f := fun c => D.bl (lowC c))) _
    rw [List.nil_append]
    show opt (blsD (List.filterMap _ _)) _
    rw [e, bls_map]
    show Q (.d (.bl ((s.cps.toList.map lowC).all id))) S
    rw [List.all_map, show (id ∘ lowC) = lowC from rfl, hl]
    exact h
theorem w_is_word_tup {ds : List D} {E S Q} (h : Q (.d (.bl false)) S) : m_is_word K cs [.tup ds] E S Q := by
  unfold m_is_word b_is_word
  simp only [mk, sRet, sRetN, sSeq, sNx, sIf, sSet, sSetO, sEx, xU, xF, xB, xCons, xNil, xV, xC, xMv, st0, opt, looks, look, frz, frzs, isiG, tyG, clsG, clssG, O.toD, xAnd, xOr, xNot, xIf, xIfO, xT, xTO, xNotT, xAndT, xOrT, xIfT, xYes, xOp, xUn, xTup, xLst, xCh, xLc, xDc, iA, itemsD, gN, gT, gsC, gsN, sFor, sAsg, isB, iiG0, lenG, listG, tupG, leG, ltG, geG, gtG, intG, Ps.wp, wipeO, xP, xE, cP, cE, isSc, List.map_cons, List.map_nil, List.cons_append, List.nil_append, List.length_cons, List.length_nil, List.getElem?_cons_zero, List.getElem?_cons_succ, List.replicate, List.set_cons_zero, List.set_cons_succ, Nat.reduceSub, Nat.reduceAdd, if_true, if_false, Bool.false_eq_true, reduceCtorEq, show PySem.W.kitOne K (.type "tuple") (.type "str") = some false from rfl]
  exact h
theorem w_is_list_tup {ds : List D} {E S Q} (h : Q (.d (.bl true)) S) : m_is_list K cs [.tup ds] E S Q := by
  unfold m_is_list b_is_list
  simp only [mk, sRet, sRetN, sSeq, sNx, sIf, sSet, sSetO, sEx, xU, xF, xB, xCons, xNil, xV, xC, xMv, st0, opt, looks, look, frz, frzs, isiG, tyG, clsG, clssG, O.toD, xAnd, xOr, xNot, xIf, xIfO, xT, xTO, xNotT, xAndT, xOrT, xIfT, xYes, xOp, xUn, xTup, xLst, xCh, xLc, xDc, iA, itemsD, gN, gT, gsC, gsN, sFor, sAsg, isB, iiG0, lenG, listG, tupG, leG, ltG, geG, gtG, intG, Ps.wp, wipeO, xP, xE, cP, cE, isSc, List.map_cons, List.map_nil, List.cons_append, List.nil_append, List.length_cons, List.length_nil, List.getElem?_cons_zero, List.getElem?_cons_succ, List.replicate, List.set_cons_zero, List.set_cons_succ, Nat.reduceSub, Nat.reduceAdd, if_true, if_false, Bool.false_eq_true, reduceCtorEq, show PySem.W.kitAny K (.type "tuple") [.type "list", .type "tuple"] = some true from rfl]
  exact ⟨by rw [sizeLine_eq]; omega, h⟩
theorem w_is_list_lst {ds : List D} {E S Q} (h : Q (.d (.bl true)) S) : m_is_list K cs [.lst ds] E S Q := by
  unfold m_is_list b_is_list
  simp only [mk, sRet, sRetN, sSeq, sNx, sIf, sSet, sSetO, sEx, xU, xF, xB, xCons, xNil, xV, xC, xMv, st0, opt, looks, look, frz, frzs, isiG, tyG, clsG, clssG, O.toD, xAnd, xOr, xNot, xIf, xIfO, xT, xTO, xNotT, xAndT, xOrT, xIfT, xYes, xOp, xUn, xTup, xLst, xCh, xLc, xDc, iA, itemsD, gN, gT, gsC, gsN, sFor, sAsg, isB, iiG0, lenG, listG, tupG, leG, ltG, geG, gtG, intG, Ps.wp, wipeO, xP, xE, cP, cE, isSc, List.map_cons, List.map_nil, List.cons_append, List.nil_append, List.length_cons, List.length_nil, List.getElem?_cons_zero, List.getElem?_cons_succ, List.replicate, List.set_cons_zero, List.set_cons_succ, Nat.reduceSub, Nat.reduceAdd, if_true, if_false, Bool.false_eq_true, reduceCtorEq, show PySem.W.kitAny K (.type "list") [.type "list", .type "tuple"] = some true from rfl]
  exact ⟨by rw [sizeLine_eq]; omega, h⟩
end Q
namespace Q
open PySem L2 PySem.Spec PyProof.Rows
variable {K : PySem.W.Frag} {cs : Cs}
theorem cutD_take {α : Type} (xs : List α) (k : Nat) : cutD xs none (some (k : Int)) = xs.take k := by
  unfold cutD
  rw [HT.sIx_none, HT.sIx_nat, List.drop_zero, Nat.sub_zero]
  rcases Nat.le_total k xs.length with h | h
  · rw [Nat.min_eq_left h]
  · rw [Nat.min_eq_right h, List.take_length, List.take_of_length_le h]
theorem bls_false {α : Type} : ∀ xs : List α, blsD (xs.map fun _ => D.bl false) = some (xs.map fun _ => false) := bls_map fun _ => false
theorem w_are_different {ns : List Str} (hs : ∀ x ∈ ns, PyData.strOk x = true) (nd : ns.Nodup) (hl : ns.length < 1000) {E S Q} (h : Q (.d (.bl true)) S) : m_are_different K cs [.lst (ns.map D.str)] E S Q := by
  unfold m_are_different b_are_different
  simp only [mk, sRet, sRetN, sSeq, sNx, sIf, sSet, sSetO, sEx, xU, xF, xB, xCons, xNil, xV, xC, xMv, st0, opt, looks, look, frz, frzs, isiG, tyG, clsG, clssG, O.toD, xAnd, xOr, xNot, xIf, xIfO, xT, xTO, xNotT, xAndT, xOrT, xIfT, xYes, xOp, xUn, xTup, xLst, xCh, xLc, xDc, iA, itemsD, gN, gT, gsC, gsN, sFor, sAsg, isB, iiG0, lenG, listG, tupG, leG, ltG, geG, gtG, intG, Ps.wp, wipeO, xP, xE, cP, cE, isSc, List.map_cons, List.map_nil, List.cons_append, List.nil_append, List.length_cons, List.length_nil, List.getElem?_cons_zero, List.getElem?_cons_succ, List.replicate, List.set_cons_zero, List.set_cons_succ, Nat.reduceSub, Nat.reduceAdd, if_true, if_false, Bool.false_eq_true, reduceCtorEq, iEn]
  refine lcW_pure (st0 := ⟨[O.d (D.lst (ns.map D.str)), O.d (D.lst (ns.map D.str)), O.un, O.un], S, false, false⟩) (fun d => some (.bl false)) _ _ _ rfl ?_ ?_ ?_
  · rw [enumD_length, List.length_map, sizeLine_eq, List.length_nil]
    omega
  · intro d hd R1 R0 hR
    obtain ⟨i, hi⟩ := List.getElem?_of_mem hd
    obtain ⟨x, hx, rfl⟩ := enumD_get hi
    rw [List.getElem?_map] at hx
    obtain ⟨n, hn, rfl⟩ := Option.map_eq_some_iff.mp hx
    have e1 : cutD (ns.map D.str) none (some ((0 + i : Nat) : Int)) = (ns.take i).map D.str := by rw [Nat.zero_add, cutD_take, List.map_take]
    have e2 : decide (n ∈ ns.take i) = false := by
      refine decide_eq_false fun z => ?_
      obtain ⟨j, hj, ej⟩ := List.mem_take_iff_getElem.mp z
      have hi2 := (List.getElem?_eq_some_iff.mp hn).1
      have : j = i := (List.getElem?_inj (show j < ns.length by omega) nd).mp (by rw [List.getElem?_eq_getElem (by omega), ej, hn])
      omega
    simp only [mk, sRet, sRetN, sSeq, sNx, sIf, sSet, sSetO, sEx, xU, xF, xB, xCons, xNil, xV, xC, xMv, st0, opt, looks, look, frz, frzs, isiG, tyG, clsG, clssG, O.toD, xAnd, xOr, xNot, xIf, xIfO, xT, xTO, xNotT, xAndT, xOrT, xIfT, xYes, xOp, xUn, xTup, xLst, xCh, xLc, xDc, iA, itemsD, gN, gT, gsC, gsN, sFor, sAsg, isB, iiG0, lenG, listG, tupG, leG, ltG, geG, gtG, intG, Ps.wp, wipeO, xP, xE, cP, cE, isSc, List.map_cons, List.map_nil, List.cons_append, List.nil_append, List.length_cons, List.length_nil, List.getElem?_cons_zero, List.getElem?_cons_succ, List.replicate, List.set_cons_zero, List.set_cons_succ, Nat.reduceSub, Nat.reduceAdd, if_true, if_false, Bool.false_eq_true, reduceCtorEq, pNo, pSo, xSl, slD, inG, getD, e1, inD_strs false (hs n (List.mem_of_getElem? hn)) (fun x hx => hs x (List.mem_of_mem_take hx)), e2]
    exact ⟨trivial, trivial, hR _ rfl⟩
  · rw [List.nil_append, show List.filterMap (fun d => some (D.bl false)) (enumD 0 (List.map D.str ns)) = (enumD 0 (List.map D.str ns)).map fun _ => D.bl false from congrFun (List.filterMap_eq_map (f := fun _ => D.bl false)) _]
    show opt (blsD _) _
    rw [bls_false]
    show Q (.d (.bl !(((enumD 0 (ns.map D.str)).map fun _ => false).any id))) S
    rw [List.any_map, show ((enumD 0 (ns.map D.str)).any (id ∘ fun _ => false)) = false from List.any_eq_false.mpr fun _ _ z => by cases z]
    exact h
end Q
namespace Q
open PySem L2 PySem.Spec PyProof.Rows
theorem low_lt {c : Nat} (h : lowC c = true) : c < 0x110000 := by
  have h1 : c ∈ small.cps.toList := of_decide_eq_true h
  have h2 : ∀ d ∈ small.cps.toList, d < 0x110000 := by decide +kernel
  exact h2 c h1
theorem word_len {s : Str} (h : wordB s = true) : 1 ≤ s.length ∧ s.length ≤ 8 := by
  unfold wordB at h
  rw [Bool.and_eq_true, Bool.and_eq_true] at h
  have h1 := of_decide_eq_true h.1.1
  have h2 := of_decide_eq_true h.1.2
  omega
theorem word_ok {s : Str} (h : wordB s = true) : PyData.strOk s = true := by
  unfold wordB at h
  rw [Bool.and_eq_true] at h
  unfold PyData.strOk
  rw [← Array.all_toList, List.all_eq_true]
  intro c hc
  exact decide_eq_true (low_lt (List.all_eq_true.mp h.2 c hc))
theorem eraseIdx_perm {α : Type} : ∀ {xs : List α} {k : Nat} {y : α}, xs[k]? = some y → (y :: xs.eraseIdx k).Perm xs
  | [], k, y, h => by simp at h
  | x :: xs, 0, y, h => by
    simp at h
    subst h
    exact List.Perm.refl _
  | x :: xs, k + 1, y, h => by
    have ih := eraseIdx_perm (xs := xs) (k := k) (y := y) (by simpa using h)
    rw [List.eraseIdx_cons_succ]
    exact (List.Perm.swap x y _).trans (ih.cons x)
theorem eraseIdx_map {α β : Type} (f : α → β) : ∀ (xs : List α) (k : Nat), (xs.map f).eraseIdx k = (xs.eraseIdx k).map f
  | [], _ => by simp
  | x :: xs, 0 => by simp
  | x :: xs, k + 1 => by
    rw [List.map_cons, List.eraseIdx_cons_succ, List.eraseIdx_cons_succ, List.map_cons, eraseIdx_map f xs k]
/-! ### the drawn words -/
abbrev tl (s : Str) : List Nat := s.cps.toList
theorem tl_app (a b : Str) : tl (a ++ b) = tl a ++ tl b := by
  show (a.cps ++ b.cps).toList = a.cps.toList ++ b.cps.toList
  rw [Array.toList_append]
theorem tl_len (s : Str) : (tl s).length = s.length := by
  show s.cps.toList.length = s.cps.size
  simp
theorem tl_ext {a b : Str} (h : tl a = tl b) : a = b := by
  cases a with
  | mk x =>
    cases b with
    | mk y =>
      have : x = y := Array.toList_inj.mp h
      rw [this]
def letter (i : Nat) : Nat := (tl small).getD i 97
theorem small_len : (tl small).length = 26 := by decide +kernel
theorem letter_get {i : Nat} (h : i < 26) : (tl small)[i]? = some (letter i) := by
  unfold letter
  rw [List.getD_eq_getElem?_getD, List.getElem?_eq_getElem (by rw [small_len]; exact h)]
  rfl
theorem small_nd : (tl small).Nodup := by decide +kernel
theorem letter_inj {i j : Nat} (hi : i < 26) (hj : j < 26) (h : letter i = letter j) : i = j :=
  (List.getElem?_inj (by rw [small_len]; exact hi) small_nd).mp ((letter_get hi).trans (by rw [h, letter_get hj]))
theorem letter_low {i : Nat} (h : i < 26) : lowC (letter i) = true := decide_eq_true (List.mem_of_getElem? (letter_get h))
def qs (k : Nat) : Str := Txt.mul "q" (if k % 3 = 2 then 1 else 0)
theorem tl_qs (k : Nat) : tl (qs k) = if k % 3 = 2 then [113] else [] := by
  unfold qs
  by_cases h : k % 3 = 2
  · rw [if_pos h, if_pos h]
    decide +kernel
  · rw [if_neg h, if_neg h]
    decide +kernel
theorem cut_pre (z : Str) (k : Nat) : tl (cutS z none (some (k : Int))) = (tl z).take k := by
  unfold cutS
  show (((z.cps.toList.drop (HT.sIx z.length 0 none)).take (HT.sIx z.length z.length (some (k : Int)) - HT.sIx z.length 0 none)).toArray).toList = _
  rw [HT.sIx_none, HT.sIx_nat, List.drop_zero, Nat.sub_zero]
  show z.cps.toList.take (min k z.length) = _
  rw [← tl_len z, ← List.take_take, List.take_length]
theorem cut_suf (z : Str) (k : Nat) : tl (cutS z (some (k : Int)) none) = (tl z).drop k := by
  unfold cutS
  show (((z.cps.toList.drop (HT.sIx z.length 0 (some (k : Int)))).take (HT.sIx z.length z.length none - HT.sIx z.length 0 (some (k : Int)))).toArray).toList = _
  rw [HT.sIx_none, HT.sIx_nat]
  show (z.cps.toList.drop (min k z.length)).take (z.length - min k z.length) = z.cps.toList.drop k
  rw [← tl_len z]
  by_cases h : k ≤ (tl z).length
  · rw [Nat.min_eq_left h, ← List.length_drop, List.take_length]
  · rw [Nat.min_eq_right (by omega), List.drop_eq_nil_of_le (Nat.le_refl _), List.drop_eq_nil_of_le (by omega : (tl z).length ≤ k), List.take_nil]
/-- the k-th word -/
def wd0 (stem : Str) (a f s k : Nat) : Str := cutS stem none (some (a : Int)) ++ ⟨#[letter ((f + s * k) % 26)]⟩ ++ cutS stem (some (a : Int)) none
def wd (stem : Str) (a f s k : Nat) : Str := wd0 stem a f s k ++ qs k
theorem tl_wd0 (stem : Str) (a f s k : Nat) : tl (wd0 stem a f s k) = (tl stem).take a ++ [letter ((f + s * k) % 26)] ++ (tl stem).drop a := by
  unfold wd0
  rw [tl_app, tl_app, cut_pre, cut_suf]
theorem tl_wd (stem : Str) (a f s k : Nat) : tl (wd stem a f s k) = (tl stem).take a ++ [letter ((f + s * k) % 26)] ++ (tl stem).drop a ++ (if k % 3 = 2 then [113] else []) := by
  unfold wd
  rw [tl_app, tl_wd0, tl_qs]
theorem wd0_len {stem : Str} {a f s k : Nat} (h : stem.length ≤ 4) : (wd0 stem a f s k).length ≤ 9 := by
  rw [← tl_len, tl_wd0, List.length_append, List.length_append, List.length_take, List.length_drop, tl_len, List.length_singleton]
  omega
structure StemOk (stem : Str) (a f s : Nat) : Prop where
  len : stem.length ≤ 4
  low : ∀ c ∈ tl stem, lowC c = true
  a : a ≤ stem.length
  f : f < 26
  s : s = 1 ∨ s = 3 ∨ s = 5 ∨ s = 7 ∨ s = 9 ∨ s = 11
theorem wd_word {stem : Str} {a f s : Nat} (h : StemOk stem a f s) (k : Nat) : wordB (wd stem a f s k) = true := by
  have hl : (wd stem a f s k).length = stem.length + 1 + (if k % 3 = 2 then 1 else 0) := by
    rw [← tl_len, tl_wd, List.length_append, List.length_append, List.length_append, List.length_take, List.length_drop, tl_len, List.length_singleton]
    have := h.a
    split
    · show min a stem.length + 1 + (stem.length - a) + 1 = _
      omega
    · show min a stem.length + 1 + (stem.length - a) + 0 = _
      omega
  have h4 := h.len
  unfold wordB
  rw [Bool.and_eq_true, Bool.and_eq_true, List.all_eq_true]
  refine ⟨⟨decide_eq_true ?_, decide_eq_true ?_⟩, fun c hc => ?_⟩
  · rw [hl]
    omega
  · rw [hl]
    split <;> omega
  · have hc' : c ∈ tl (wd stem a f s k) := hc
    rw [tl_wd] at hc'
    rcases List.mem_append.mp hc' with hc' | hc'
    · rcases List.mem_append.mp hc' with hc' | hc'
      · rcases List.mem_append.mp hc' with hc' | hc'
        · exact h.low c (List.mem_of_mem_take hc')
        · rw [List.mem_singleton.mp hc']
          exact letter_low (Nat.mod_lt _ (by decide))
      · exact h.low c (List.mem_of_mem_drop hc')
    · split at hc'
      · rw [List.mem_singleton.mp hc']
        decide +kernel
      · cases hc'
theorem wd_inj {stem : Str} {a f s i j : Nat} (h : StemOk stem a f s) (hi : i < 13) (hj : j < 13) (e : wd stem a f s i = wd stem a f s j) : i = j := by
  have e1 : tl (wd stem a f s i) = tl (wd stem a f s j) := by rw [e]
  rw [tl_wd, tl_wd] at e1
  have key : letter ((f + s * i) % 26) = letter ((f + s * j) % 26) := by
    have e2 := congrArg (fun l => l[((tl stem).take a).length]?) e1
    simp only [List.append_assoc] at e2
    rw [List.getElem?_append_right (Nat.le_refl _), List.getElem?_append_right (Nat.le_refl _), Nat.sub_self] at e2
    simpa using e2
  have e3 := letter_inj (Nat.mod_lt _ (by decide)) (Nat.mod_lt _ (by decide)) key
  rcases h.s with rfl | rfl | rfl | rfl | rfl | rfl <;> omega
theorem nodup_map_on {α β : Type} {f : α → β} : ∀ {l : List α}, l.Nodup → (∀ a ∈ l, ∀ b ∈ l, f a = f b → a = b) → (l.map f).Nodup
  | [], _, _ => List.nodup_nil
  | x :: l, nd, h => by
    rw [List.map_cons, List.nodup_cons]
    have nd' := List.nodup_cons.mp nd
    refine ⟨fun hm => ?_, nodup_map_on nd'.2 fun a ha b hb => h a (List.mem_cons_of_mem _ ha) b (List.mem_cons_of_mem _ hb)⟩
    obtain ⟨y, hy, e⟩ := List.mem_map.mp hm
    exact nd'.1 (h y (List.mem_cons_of_mem _ hy) x List.mem_cons_self e ▸ hy)
/-- all words -/
def wds (stem : Str) (a f s n : Nat) : List Str := (List.range n).map (wd stem a f s)
theorem wds_len (stem : Str) (a f s n : Nat) : (wds stem a f s n).length = n := by
  unfold wds
  rw [List.length_map, List.length_range]
theorem wds_word {stem : Str} {a f s : Nat} (h : StemOk stem a f s) {n : Nat} : ∀ x ∈ wds stem a f s n, wordB x = true := by
  intro x hx
  obtain ⟨k, _, rfl⟩ := List.mem_map.mp hx
  exact wd_word h k
theorem wds_nd {stem : Str} {a f s n : Nat} (h : StemOk stem a f s) (hn : n ≤ 13) : (wds stem a f s n).Nodup :=
  nodup_map_on List.nodup_range fun i hi j hj e => wd_inj h (by have := List.mem_range.mp hi; omega) (by have := List.mem_range.mp hj; omega) e
/-- the stem: signs put together -/
theorem join_signs : ∀ cs : List Nat, tl (Str.join "" (cs.map fun c => (⟨#[c]⟩ : Str))) = cs
  | [] => rfl
  | [c] => rfl
  | c :: d :: cs => by
    show tl ((⟨#[c]⟩ : Str) ++ ("" : Str) ++ Str.join "" ((d :: cs).map fun c => (⟨#[c]⟩ : Str))) = _
    rw [tl_app, tl_app, join_signs (d :: cs)]
    rfl
theorem tjoin_signs (cs : List Nat) : tl (Txt.join "" (cs.map fun c => (⟨#[c]⟩ : Str))) = cs := by
  have h := PyProof.Rows.join_plain_closes "" (cs.map fun c => (⟨#[c]⟩ : Str))
  rw [eq_of_beq h]
  exact join_signs cs
theorem ones_sum : ∀ cs : List Nat, ((cs.map fun ch => (⟨#[ch]⟩ : Str)).map (·.length)).sum = cs.length
  | [] => rfl
  | c :: cs => by
    rw [List.map_cons, List.map_cons, List.sum_cons, ones_sum cs, List.length_cons]
    show 1 + cs.length = cs.length + 1
    omega
theorem mulq_ok (b : Bool) : MulOk "q" (if b = true then 1 else 0) := by
  cases b
  · exact ⟨by decide, fun h => absurd (by decide) h, fun h => absurd (by decide) h⟩
  · exact ⟨by decide, fun _ h => absurd h (by decide), fun _ h => absurd h (by decide)⟩
theorem qs_len (i : Nat) : (qs i).length ≤ 1 := by
  rw [← tl_len, tl_qs]
  split <;> simp
theorem idx26 (f s i : Nat) : ((f : Int) + (s : Int) * ((0 : Int) + (i : Nat))) % 26 = (((f + s * i) % 26 : Nat) : Int) := by
  rw [Int.zero_add, Int.natCast_emod, Int.natCast_add, Int.natCast_mul]
  rfl
end Q
/-! loops with an invariant; dict comprehensions -/
namespace Q
open PySem L2 PySem.Spec PyProof.Rows
/-- an expression that changes nothing -/
def Ev (f : Ex) (E : EK) (st : Ps) (d : D) : Prop := ∀ Q : R → Ps → Prop, Q (.v d) st → f E st Q
def EvA (g : Ax) (E : EK) (st : Ps) (ds : List D) : Prop := ∀ Q : List R → Ps → Prop, Q (ds.map R.v) st → g E st Q
theorem evA_nil {E : EK} {st : Ps} : EvA xNil E st [] := fun _ h => h
theorem evA_cons {f : Ex} {g : Ax} {E : EK} {st : Ps} {d : D} {ds : List D} (h1 : Ev f E st d) (h2 : EvA g E st ds) : EvA (xCons f g) E st (d :: ds) := fun _ h => h1 _ (h2 _ h)
theorem frzs_v (st : Ps) : ∀ ds : List D, frzs st (ds.map R.v) = some (ds, st)
  | [] => rfl
  | d :: ds => by
    rw [List.map_cons, frzs]
    show (match frzs st (ds.map R.v) with | none => none | some q' => some (d :: q'.1, q'.2)) = _
    rw [frzs_v st ds]
theorem looks_v (st : Ps) : ∀ ds : List D, looks st (ds.map R.v) = some ds
  | [] => rfl
  | d :: ds => by
    rw [List.map_cons, looks, looks_v st ds]
    rfl
theorem xMk_of {C : Addr} {rw : Bool} {np : Nat} {m : MI} {ga : Ax} {E : EK} {st : Ps} {Q : O → Ps → Prop} (ds : List D) (ha : EvA ga E st ds) (hr : rw = true → st.rw = true) (hn : ds.length = np) (h : ∀ x, m x [] ds (fun C fs S' => E C fs { st with S := S' }) st.S fun fs S' => Q (.d (.ins C fs)) { st with S := S' }) : xMk C rw np m ga E st Q := by
  refine ha _ ⟨hr, ?_⟩
  rw [frzs_v]
  exact ⟨hn, h⟩
theorem xE_of {rw : Bool} {np : Nat} {m : MF} {ga : Ax} {E : EK} {st : Ps} {Q : O → Ps → Prop} (ds : List D) (ha : EvA ga E st ds) (hr : rw = true → st.rw = true) (hn : ds.length = np) (h : m ds (fun C fs S' => E C fs { st with S := S' }) st.S fun o S' => Q o { st with S := S' }) : xE rw np m ga E st Q := by
  refine ha _ ⟨hr, ?_⟩
  rw [frzs_v]
  exact ⟨hn, h⟩
theorem xP_of {np : Nat} {m : MF} {ga : Ax} {E : EK} {st : Ps} {Q : O → Ps → Prop} (ds : List D) (ha : EvA ga E st ds) (hn : ds.length = np) (h : m ds (fun C fs S' => E C fs { st with S := S' }) st.S fun o S' => if isSc o = true then Q o st else Q o { st with S := S' }) : xP np m ga E st Q := by
  refine ha _ ?_
  unfold cP
  rw [looks_v, frzs_v]
  exact ⟨hn, h⟩
theorem at0 {α : Type} (x : α) (xs : List α) : atI (x :: xs) 0 = some x := atI_nat (j := 0) rfl
theorem at1 {α : Type} (x y : α) (xs : List α) : atI (x :: y :: xs) 1 = some y := atI_nat (j := 1) rfl
theorem at2 {α : Type} (x y z : α) (xs : List α) : atI (x :: y :: z :: xs) 2 = some z := atI_nat (j := 2) rfl
theorem eqv_int (a b : Int) : PyData.eqv (.int a) (.int b) = decide (a = b) := by
  unfold PyData.eqv
  by_cases h : a = b
  · subst h
    simp
  · simp [h]
theorem eqI {a b : Int} : eqG (.int a) (.int b) = some (.d (.bl (decide (a = b)))) := by
  show some (O.d (.bl (PyData.eqv (.int a) (.int b)))) = _
  rw [eqv_int]
theorem neI {a b : Int} : neG (.int a) (.int b) = some (.d (.bl (!decide (a = b)))) := by
  show some (O.d (.bl (!PyData.eqv (.int a) (.int b)))) = _
  rw [eqv_int]
theorem fm_congr {α β : Type} {f g : α → Option β} : ∀ {l : List α}, (∀ x ∈ l, f x = g x) → l.filterMap f = l.filterMap g
  | [], _ => rfl
  | x :: l, h => by rw [List.filterMap_cons, List.filterMap_cons, h x List.mem_cons_self, fm_congr fun y hy => h y (List.mem_cons_of_mem _ hy)]
theorem fm_all {α β : Type} {f : α → Option β} {g : α → β} {l : List α} (h : ∀ x ∈ l, f x = some (g x)) : l.filterMap f = l.map g := (fm_congr h).trans (congrFun (List.filterMap_eq_map (f := g)) l)
theorem fm_rng {β : Type} {f : D → Option β} (g : Nat → β) {m : Nat} (h : ∀ i : Nat, i < m → f (.int (i : Int)) = some (g i)) : (rngD 0 ((m : Nat) : Int).toNat).filterMap f = (List.range m).map g := by
  unfold rngD
  rw [List.filterMap_map, Int.toNat_natCast]
  refine fm_all fun i hi => ?_
  show f (.int ((0 : Int) + (i : Int))) = _
  rw [Int.zero_add]
  exact h i (List.mem_range.mp hi)
theorem rng_len (m : Nat) : (rngD 0 ((m : Nat) : Int).toNat).length = m := by
  unfold rngD
  rw [List.length_map, List.length_range, Int.toNat_natCast]
theorem rng_mem {m : Nat} {d : D} (h : d ∈ rngD 0 ((m : Nat) : Int).toNat) : ∃ i : Nat, i < m ∧ d = .int (i : Int) := by
  obtain ⟨i, hi, rfl⟩ := List.mem_map.mp h
  rw [List.mem_range, Int.toNat_natCast] at hi
  exact ⟨i, hi, by rw [Int.zero_add]⟩
theorem seq_go {f g : Sx} {E : EK} {K : En} {st : Ps} (h : ∀ N : Ps → Prop, (∀ st', g E K st' → N st') → f E ⟨N, K.rt, K.bk, K.ct⟩ st) : sSeq f g E K st := h _ fun _ z => z
theorem forW_by {tg : Tg} {b : Sx} {E : EK} {K : En} (I : List D → Ps → Prop) (h0 : ∀ st, I [] st → K.nx st) (h1 : ∀ d ds st, I (d :: ds) st → ∀ N : Ps → Prop, (∀ st', I ds st' → N st') → tg d st fun st' => b E ⟨N, K.rt, K.nx, N⟩ st') : ∀ (ds : List D) (st : Ps), I ds st → forW tg b E K ds st
  | [], st, h => h0 st h
  | d :: ds, st, h => h1 d ds st h _ fun st' z => forW_by I h0 h1 ds st' z
theorem lcW_by {tg : Tg} {tt : Tx} {f : Ex} {vs : List Nat} {Q : O → Ps → Prop} (I : List D → List D → Ps → Prop) (h0 : ∀ acc st, I [] acc st → Q (.lst acc) (st.wp vs))
    (h1 : ∀ d ds acc st, I (d :: ds) acc st → ∀ R : List D → Ps → Prop, (∀ acc' st', I ds acc' st' → R acc' st') → tg d (st.wp vs) fun st2 => tt E0k st2 fun b st3 => if b = true then f E0k st3 fun r st4 => opt (frz st4 r) fun q => acc.length < sizeLine ∧ R (acc ++ [q.1]) q.2 else R acc st3) :
    ∀ (ds acc : List D) (st : Ps), I ds acc st → lcW tg tt f vs Q ds acc st
  | [], acc, st, h => h0 acc st h
  | d :: ds, acc, st, h => h1 d ds acc st h (fun acc' st' => lcW tg tt f vs Q ds acc' st') fun acc' st' z => lcW_by I h0 h1 ds acc' st' z
theorem putD_new {κ : Type} [DecidableEq κ] {kvs : List (κ × D)} {k : κ} {v : D} (h : k ∉ kvs.map (·.1)) : putD kvs k v = kvs ++ [(k, v)] := by
  unfold putD
  rw [if_neg]
  intro z
  obtain ⟨kv, h1, h2⟩ := List.any_eq_true.mp z
  exact h (List.mem_map.mpr ⟨kv, h1, of_decide_eq_true h2⟩)
theorem keyD_kD (k : Key) : keyD (kD k) = some k := by cases k <;> rfl
theorem keysD_kD : ∀ ks : List Key, keysD (ks.map kD) = some ks
  | [] => rfl
  | k :: ks => by rw [List.map_cons, keysD, keyD_kD, keysD_kD ks]
/-- a dict comprehension that changes nothing, with unlike keys -/
theorem dcW_K {tg : Tg} {tt : Tx} {fk fv : Ex} {vs : List Nat} {Q : O → Ps → Prop} {st0 : Ps} (g : D → Option (Key × D)) : ∀ (ds : List D) (acc : List (Key × D)) (st : Ps), st.wp vs = st0 → acc.length + ds.length < sizeLine → ((acc ++ ds.filterMap g).map (·.1)).Nodup →
    (∀ d ∈ ds, ∀ (R1 : D → D → Ps → Prop) (R0 : Ps → Prop), (∀ st', st'.wp vs = st0 → match g d with | some y => R1 (kD y.1) y.2 st' | none => R0 st') → tg d st0 fun st2 => tt E0k st2 fun b st3 => if b = true then fk E0k st3 fun r st4 => opt (frz st4 r) fun q => fv E0k q.2 fun r2 st5 => opt (frz st5 r2) fun q2 => R1 q.1 q2.1 q2.2 else R0 st3) →
    Q (.dK (acc ++ ds.filterMap g)) st0 → dcW tg tt fk fv vs Q ds (.dK acc) st
  | [], acc, st, e, hl, nd, h, hq => by
    unfold dcW
    rw [e]
    simpa using hq
  | d :: ds, acc, st, e, hl, nd, h, hq => by
    unfold dcW
    rw [e]
    rw [List.length_cons] at hl
    refine h d List.mem_cons_self (fun k v st' => lenO (.dK acc) < sizeLine ∧ opt (putO (.dK acc) k v) fun acc' => dcW tg tt fk fv vs Q ds acc' st') (fun st' => dcW tg tt fk fv vs Q ds (.dK acc) st') fun st' e' => ?_
    cases q : g d with
    | none => exact dcW_K g ds acc st' e' (by omega) (by rw [List.filterMap_cons, q] at nd; exact nd) (fun d' hd => h d' (List.mem_cons_of_mem _ hd)) (by rw [List.filterMap_cons, q] at hq; exact hq)
    | some y =>
      rw [List.filterMap_cons, q] at hq nd
      have nd1 : y.1 ∉ acc.map (·.1) := by
        rw [List.map_append, List.map_cons] at nd
        intro z
        exact (List.nodup_append.mp nd).2.2 _ z _ List.mem_cons_self rfl
      refine ⟨show acc.length < sizeLine by omega, ?_⟩
      show opt ((keyD (kD y.1)).map fun key => O.dK (putD acc key y.2)) _
      rw [keyD_kD]
      show dcW tg tt fk fv vs Q ds (.dK (putD acc y.1 y.2)) st'
      rw [putD_new nd1]
      refine dcW_K g ds (acc ++ [(y.1, y.2)]) st' e' (by rw [List.length_append, List.length_singleton]; omega) ?_ (fun d' hd => h d' (List.mem_cons_of_mem _ hd)) ?_
      · rw [List.append_assoc]; exact nd
      · rw [List.append_assoc]; exact hq
theorem dcW_T {tg : Tg} {tt : Tx} {fk fv : Ex} {vs : List Nat} {Q : O → Ps → Prop} {st0 : Ps} (g : D → Option (List Key × D)) : ∀ (ds : List D) (acc : List (List Key × D)) (st : Ps), st.wp vs = st0 → acc.length + ds.length < sizeLine → ((acc ++ ds.filterMap g).map (·.1)).Nodup →
    (∀ d ∈ ds, ∀ (R1 : D → D → Ps → Prop) (R0 : Ps → Prop), (∀ st', st'.wp vs = st0 → match g d with | some y => R1 (.tup (y.1.map kD)) y.2 st' | none => R0 st') → tg d st0 fun st2 => tt E0k st2 fun b st3 => if b = true then fk E0k st3 fun r st4 => opt (frz st4 r) fun q => fv E0k q.2 fun r2 st5 => opt (frz st5 r2) fun q2 => R1 q.1 q2.1 q2.2 else R0 st3) →
    Q (.dT (acc ++ ds.filterMap g)) st0 → dcW tg tt fk fv vs Q ds (.dT acc) st
  | [], acc, st, e, hl, nd, h, hq => by
    unfold dcW
    rw [e]
    simpa using hq
  | d :: ds, acc, st, e, hl, nd, h, hq => by
    unfold dcW
    rw [e]
    rw [List.length_cons] at hl
    refine h d List.mem_cons_self (fun k v st' => lenO (.dT acc) < sizeLine ∧ opt (putO (.dT acc) k v) fun acc' => dcW tg tt fk fv vs Q ds acc' st') (fun st' => dcW tg tt fk fv vs Q ds (.dT acc) st') fun st' e' => ?_
    cases q : g d with
    | none => exact dcW_T g ds acc st' e' (by omega) (by rw [List.filterMap_cons, q] at nd; exact nd) (fun d' hd => h d' (List.mem_cons_of_mem _ hd)) (by rw [List.filterMap_cons, q] at hq; exact hq)
    | some y =>
      rw [List.filterMap_cons, q] at hq nd
      have nd1 : y.1 ∉ acc.map (·.1) := by
        rw [List.map_append, List.map_cons] at nd
        intro z
        exact (List.nodup_append.mp nd).2.2 _ z _ List.mem_cons_self rfl
      refine ⟨show acc.length < sizeLine by omega, ?_⟩
      show opt ((keysD (y.1.map kD)).map fun key => O.dT (putD acc key y.2)) _
      rw [keysD_kD]
      show dcW tg tt fk fv vs Q ds (.dT (putD acc y.1 y.2)) st'
      rw [putD_new nd1]
      refine dcW_T g ds (acc ++ [(y.1, y.2)]) st' e' (by rw [List.length_append, List.length_singleton]; omega) ?_ (fun d' hd => h d' (List.mem_cons_of_mem _ hd)) ?_
      · rw [List.append_assoc]; exact nd
      · rw [List.append_assoc]; exact hq
end Q
namespace Q
open PySem L2 PySem.Spec PyProof.Rows
variable {K : PySem.W.Frag} {cs : Cs} {E : EF} {R : List Cell} {Q : O → List Cell → Prop} {n : Nat}
/-! draws; the pen is the first cell -/
theorem w_draw {m : Nat} (hn : n < 2 ^ 60) (h0 : 0 < m) (h1 : m < 1000) (h : ∀ k : Nat, k < m → Q (.d (.int k)) (.pen (n + 1) :: R)) : m__law_draw [.cell 0, .int m] E (.pen n :: R) Q := by
  refine ⟨hn, by omega, by omega, fun d d0 d1 => ?_⟩
  have := h d.toNat (by omega)
  rwa [Int.toNat_of_nonneg d0] at this
theorem w_pick {xs : List D} (hn : n < 2 ^ 60) (h0 : xs ≠ []) (h1 : xs.length < 1000) (h : ∀ x ∈ xs, Q (.d x) (.pen (n + 1) :: R)) : m__law_pick K cs [.cell 0, .lst xs] E (.pen n :: R) Q := by
  unfold m__law_pick b__law_pick
  simp only [mk, sRet, sRetN, sSeq, sNx, sIf, sSet, sSetO, sEx, xU, xF, xB, xCons, xNil, xV, xC, xMv, st0, opt, looks, look, frz, frzs, isiG, tyG, clsG, clssG, O.toD, xAnd, xOr, xNot, xIf, xIfO, xT, xTO, xNotT, xAndT, xOrT, xIfT, xYes, xOp, xUn, xTup, xLst, xCh, xLc, xDc, iA, itemsD, gN, gT, gsC, gsN, sFor, sAsg, isB, iiG0, lenG, listG, tupG, leG, ltG, geG, gtG, intG, Ps.wp, wipeO, xP, xE, cP, cE, isSc, List.map_cons, List.map_nil, List.cons_append, List.nil_append, List.length_cons, List.length_nil, List.getElem?_cons_zero, List.getElem?_cons_succ, List.replicate, List.set_cons_zero, List.set_cons_succ, Nat.reduceSub, Nat.reduceAdd, if_true, if_false, Bool.false_eq_true, reduceCtorEq, truD, Bool.not_true, Bool.not_false, Option.map_some, at0, at1, at2, eqI, neI, true_and, and_true, implies_true, ne_eq, not_false_eq_true, Nat.reduceEqDiff, Bool.not_true]
  refine w_draw hn (List.length_pos_iff.mpr h0) h1 fun k hk => ?_
  simp only [mk, sRet, sRetN, sSeq, sNx, sIf, sSet, sSetO, sEx, xU, xF, xB, xCons, xNil, xV, xC, xMv, st0, opt, looks, look, frz, frzs, isiG, tyG, clsG, clssG, O.toD, xAnd, xOr, xNot, xIf, xIfO, xT, xTO, xNotT, xAndT, xOrT, xIfT, xYes, xOp, xUn, xTup, xLst, xCh, xLc, xDc, iA, itemsD, gN, gT, gsC, gsN, sFor, sAsg, isB, iiG0, lenG, listG, tupG, leG, ltG, geG, gtG, intG, Ps.wp, wipeO, xP, xE, cP, cE, isSc, List.map_cons, List.map_nil, List.cons_append, List.nil_append, List.length_cons, List.length_nil, List.getElem?_cons_zero, List.getElem?_cons_succ, List.replicate, List.set_cons_zero, List.set_cons_succ, Nat.reduceSub, Nat.reduceAdd, if_true, if_false, Bool.false_eq_true, reduceCtorEq, truD, Bool.not_true, Bool.not_false, Option.map_some, at0, at1, at2, eqI, neI, true_and, and_true, implies_true, ne_eq, not_false_eq_true, Nat.reduceEqDiff, ixD, atI_nat (List.getElem?_eq_getElem hk), Option.map_some]
  exact h _ (List.getElem_mem hk)
theorem w_pick_str {s : Str} (hn : n < 2 ^ 60) (h0 : 0 < s.length) (h1 : s.length < 1000) (h : ∀ c ∈ s.cps.toList, Q (.d (.str ⟨#[c]⟩)) (.pen (n + 1) :: R)) : m__law_pick K cs [.cell 0, .str s] E (.pen n :: R) Q := by
  unfold m__law_pick b__law_pick
  have hl : s.length ≤ sizeLine := sizeLine_le (by omega)
  simp only [mk, sRet, sRetN, sSeq, sNx, sIf, sSet, sSetO, sEx, xU, xF, xB, xCons, xNil, xV, xC, xMv, st0, opt, looks, look, frz, frzs, isiG, tyG, clsG, clssG, O.toD, xAnd, xOr, xNot, xIf, xIfO, xT, xTO, xNotT, xAndT, xOrT, xIfT, xYes, xOp, xUn, xTup, xLst, xCh, xLc, xDc, iA, itemsD, gN, gT, gsC, gsN, sFor, sAsg, isB, iiG0, lenG, listG, tupG, leG, ltG, geG, gtG, intG, Ps.wp, wipeO, xP, xE, cP, cE, isSc, List.map_cons, List.map_nil, List.cons_append, List.nil_append, List.length_cons, List.length_nil, List.getElem?_cons_zero, List.getElem?_cons_succ, List.replicate, List.set_cons_zero, List.set_cons_succ, Nat.reduceSub, Nat.reduceAdd, if_true, if_false, Bool.false_eq_true, reduceCtorEq, truD, Bool.not_true, Bool.not_false, Option.map_some, at0, at1, at2, eqI, neI, true_and, and_true, implies_true, ne_eq, not_false_eq_true, Nat.reduceEqDiff, Bool.not_true]
  refine ⟨hl, ?_⟩
  refine w_draw hn h0 h1 fun k hk => ?_
  have hk' : k < s.cps.toList.length := by rw [show s.cps.toList.length = s.length from tl_len s]; exact hk
  simp only [mk, sRet, sRetN, sSeq, sNx, sIf, sSet, sSetO, sEx, xU, xF, xB, xCons, xNil, xV, xC, xMv, st0, opt, looks, look, frz, frzs, isiG, tyG, clsG, clssG, O.toD, xAnd, xOr, xNot, xIf, xIfO, xT, xTO, xNotT, xAndT, xOrT, xIfT, xYes, xOp, xUn, xTup, xLst, xCh, xLc, xDc, iA, itemsD, gN, gT, gsC, gsN, sFor, sAsg, isB, iiG0, lenG, listG, tupG, leG, ltG, geG, gtG, intG, Ps.wp, wipeO, xP, xE, cP, cE, isSc, List.map_cons, List.map_nil, List.cons_append, List.nil_append, List.length_cons, List.length_nil, List.getElem?_cons_zero, List.getElem?_cons_succ, List.replicate, List.set_cons_zero, List.set_cons_succ, Nat.reduceSub, Nat.reduceAdd, if_true, if_false, Bool.false_eq_true, reduceCtorEq, truD, Bool.not_true, Bool.not_false, Option.map_some, at0, at1, at2, eqI, neI, true_and, and_true, implies_true, ne_eq, not_false_eq_true, Nat.reduceEqDiff, ixD, atI_nat (List.getElem?_eq_getElem hk'), Option.map_some, hl]
  exact h _ (List.getElem_mem hk')
theorem ne_nil_strs {xs : List Str} (hx : ∀ x ∈ xs, PyData.strOk x = true) : neG (.lst (xs.map D.str)) (.lst []) = some (.d (.bl (!xs.isEmpty))) := by
  have e : eqP (.lst (xs.map D.str)) (.lst []) = some xs.isEmpty := by
    unfold eqP
    simp only [toP, toPs_strs, toPs]
    rw [shaped_strs hx, show SeqAt.shaped (.list []) = true by decide +kernel, Bool.and_self, if_pos rfl, eqv_nil]
    cases xs <;> rfl
  unfold neG
  rw [e]
abbrev shT : Tx := xTO (xOp neG (xV 2) (xF (xLst xNil)))
abbrev shB : Sx := sAppPop 3 2 (xF (xE true 2 (m__law_draw) (xCons (xV 0) (xCons (xF (xB lenG (xCons (xV 2) xNil))) xNil))))
theorem shufW {xs : List Str} (hx : ∀ x ∈ xs, PyData.strOk x = true) (hl : xs.length < 1000) (hn : n + xs.length < 2 ^ 60) {d1 : O} {E : EK} {K : En} (h : ∀ ys : List Str, ys.Perm xs → K.nx ⟨[.d (.cell 0), d1, .lst [], .lst (ys.map D.str)], .pen (n + xs.length) :: R, true, false⟩) :
    ∀ (m : Nat) (left found : List Str) (n' : Nat), left.length = m → (found ++ left).Perm xs → n' + m = n + xs.length → whileW shT shB E K (m + 1) ⟨[.d (.cell 0), d1, .lst (left.map D.str), .lst (found.map D.str)], .pen n' :: R, true, false⟩ := by
  intro m
  induction m with
  | zero =>
    intro left found n' hk hp e
    have : left = [] := List.eq_nil_of_length_eq_zero hk
    subst this
    unfold whileW
    have e0 : neG (.lst []) (.lst []) = some (.d (.bl false)) := ne_nil_strs (xs := []) (fun _ z => absurd z List.not_mem_nil)
    simp only [mk, sRet, sRetN, sSeq, sNx, sIf, sSet, sSetO, sEx, xU, xF, xB, xCons, xNil, xV, xC, xMv, st0, opt, looks, look, frz, frzs, isiG, tyG, clsG, clssG, O.toD, xAnd, xOr, xNot, xIf, xIfO, xT, xTO, xNotT, xAndT, xOrT, xIfT, xYes, xOp, xUn, xTup, xLst, xCh, xLc, xDc, iA, itemsD, gN, gT, gsC, gsN, sFor, sAsg, isB, iiG0, lenG, listG, tupG, leG, ltG, geG, gtG, intG, Ps.wp, wipeO, xP, xE, cP, cE, isSc, List.map_cons, List.map_nil, List.cons_append, List.nil_append, List.length_cons, List.length_nil, List.getElem?_cons_zero, List.getElem?_cons_succ, List.replicate, List.set_cons_zero, List.set_cons_succ, Nat.reduceSub, Nat.reduceAdd, if_true, if_false, Bool.false_eq_true, reduceCtorEq, truD, Bool.not_true, Bool.not_false, Option.map_some, at0, at1, at2, eqI, neI, true_and, and_true, implies_true, ne_eq, not_false_eq_true, Nat.reduceEqDiff, e0]
    refine ⟨by rw [sizeLine_eq]; omega, ?_⟩
    rw [show n' = n + xs.length by omega]
    rw [List.append_nil] at hp
    exact h _ hp
  | succ m ih =>
    intro left found n' hk hp e
    have hlx : found.length + left.length = xs.length := by rw [← List.length_append]; exact hp.length_eq
    have e0 := ne_nil_strs (xs := left) fun x hx' => hx x (hp.mem_iff.mp (List.mem_append_right _ hx'))
    have e1 : left.isEmpty = false := by cases left with | nil => cases hk | cons _ _ => rfl
    rw [e1] at e0
    unfold whileW
    simp only [mk, sRet, sRetN, sSeq, sNx, sIf, sSet, sSetO, sEx, xU, xF, xB, xCons, xNil, xV, xC, xMv, st0, opt, looks, look, frz, frzs, isiG, tyG, clsG, clssG, O.toD, xAnd, xOr, xNot, xIf, xIfO, xT, xTO, xNotT, xAndT, xOrT, xIfT, xYes, xOp, xUn, xTup, xLst, xCh, xLc, xDc, iA, itemsD, gN, gT, gsC, gsN, sFor, sAsg, isB, iiG0, lenG, listG, tupG, leG, ltG, geG, gtG, intG, Ps.wp, wipeO, xP, xE, cP, cE, isSc, List.map_cons, List.map_nil, List.cons_append, List.nil_append, List.length_cons, List.length_nil, List.getElem?_cons_zero, List.getElem?_cons_succ, List.replicate, List.set_cons_zero, List.set_cons_succ, Nat.reduceSub, Nat.reduceAdd, if_true, if_false, Bool.false_eq_true, reduceCtorEq, truD, Bool.not_true, Bool.not_false, Option.map_some, at0, at1, at2, eqI, neI, true_and, and_true, implies_true, ne_eq, not_false_eq_true, Nat.reduceEqDiff, e0]
    refine ⟨by rw [sizeLine_eq]; omega, ?_⟩
    show sAppPop _ _ _ _ _ _
    simp only [mk, sRet, sRetN, sSeq, sNx, sIf, sSet, sSetO, sEx, xU, xF, xB, xCons, xNil, xV, xC, xMv, st0, opt, looks, look, frz, frzs, isiG, tyG, clsG, clssG, O.toD, xAnd, xOr, xNot, xIf, xIfO, xT, xTO, xNotT, xAndT, xOrT, xIfT, xYes, xOp, xUn, xTup, xLst, xCh, xLc, xDc, iA, itemsD, gN, gT, gsC, gsN, sFor, sAsg, isB, iiG0, lenG, listG, tupG, leG, ltG, geG, gtG, intG, Ps.wp, wipeO, xP, xE, cP, cE, isSc, List.map_cons, List.map_nil, List.cons_append, List.nil_append, List.length_cons, List.length_nil, List.getElem?_cons_zero, List.getElem?_cons_succ, List.replicate, List.set_cons_zero, List.set_cons_succ, Nat.reduceSub, Nat.reduceAdd, if_true, if_false, Bool.false_eq_true, reduceCtorEq, truD, Bool.not_true, Bool.not_false, Option.map_some, at0, at1, at2, eqI, neI, true_and, and_true, implies_true, ne_eq, not_false_eq_true, Nat.reduceEqDiff, sAppPop, List.length_map]
    refine ⟨⟨_, rfl⟩, ⟨_, rfl⟩, ?_⟩
    refine w_draw (by omega) (by omega) (by omega) fun k hk' => ?_
    have hz : (left.map D.str)[k]? = some (.str left[k]) := by rw [List.getElem?_map, List.getElem?_eq_getElem hk']; rfl
    simp only [mk, sRet, sRetN, sSeq, sNx, sIf, sSet, sSetO, sEx, xU, xF, xB, xCons, xNil, xV, xC, xMv, st0, opt, looks, look, frz, frzs, isiG, tyG, clsG, clssG, O.toD, xAnd, xOr, xNot, xIf, xIfO, xT, xTO, xNotT, xAndT, xOrT, xIfT, xYes, xOp, xUn, xTup, xLst, xCh, xLc, xDc, iA, itemsD, gN, gT, gsC, gsN, sFor, sAsg, isB, iiG0, lenG, listG, tupG, leG, ltG, geG, gtG, intG, Ps.wp, wipeO, xP, xE, cP, cE, isSc, List.map_cons, List.map_nil, List.cons_append, List.nil_append, List.length_cons, List.length_nil, List.getElem?_cons_zero, List.getElem?_cons_succ, List.replicate, List.set_cons_zero, List.set_cons_succ, Nat.reduceSub, Nat.reduceAdd, if_true, if_false, Bool.false_eq_true, reduceCtorEq, truD, Bool.not_true, Bool.not_false, Option.map_some, at0, at1, at2, eqI, neI, true_and, and_true, implies_true, ne_eq, not_false_eq_true, Nat.reduceEqDiff, appPopK, Int.toNat_natCast, hz]
    refine ⟨by omega, by omega, by rw [List.length_map, sizeLine_eq]; omega, ?_⟩
    have := ih (left.eraseIdx k) (found ++ [left[k]]) (n' + 1) (by rw [List.length_eraseIdx_of_lt hk']; omega) ?_ (by omega)
    · rw [← eraseIdx_map, List.map_append, List.map_cons, List.map_nil] at this
      exact this
    · rw [List.append_assoc]
      exact (List.Perm.append_left found (eraseIdx_perm (List.getElem?_eq_getElem hk'))).trans hp
theorem w_shuffled {xs : List Str} (hx : ∀ x ∈ xs, PyData.strOk x = true) (hl : xs.length < 1000) (hn : n + xs.length < 2 ^ 60) (h : ∀ ys : List Str, ys.Perm xs → Q (.lst (ys.map D.str)) (.pen (n + xs.length) :: R)) : m__law_shuffled K cs [.cell 0, .lst (xs.map D.str)] E (.pen n :: R) Q := by
  unfold m__law_shuffled b__law_shuffled
  simp only [mk, sRet, sRetN, sSeq, sNx, sIf, sSet, sSetO, sEx, xU, xF, xB, xCons, xNil, xV, xC, xMv, st0, opt, looks, look, frz, frzs, isiG, tyG, clsG, clssG, O.toD, xAnd, xOr, xNot, xIf, xIfO, xT, xTO, xNotT, xAndT, xOrT, xIfT, xYes, xOp, xUn, xTup, xLst, xCh, xLc, xDc, iA, itemsD, gN, gT, gsC, gsN, sFor, sAsg, isB, iiG0, lenG, listG, tupG, leG, ltG, geG, gtG, intG, Ps.wp, wipeO, xP, xE, cP, cE, isSc, List.map_cons, List.map_nil, List.cons_append, List.nil_append, List.length_cons, List.length_nil, List.getElem?_cons_zero, List.getElem?_cons_succ, List.replicate, List.set_cons_zero, List.set_cons_succ, Nat.reduceSub, Nat.reduceAdd, if_true, if_false, Bool.false_eq_true, reduceCtorEq, truD, Bool.not_true, Bool.not_false, Option.map_some, at0, at1, at2, eqI, neI, true_and, and_true, implies_true, ne_eq, not_false_eq_true, Nat.reduceEqDiff, sPar2, oCons, oNil, sWhile]
  refine ⟨by rw [sizeLine_eq]; omega, xs.length + 1, ?_⟩
  refine shufW hx hl hn ?_ xs.length xs [] n rfl (List.Perm.refl _) rfl
  intro ys hp
  exact h ys hp
/-! the words -/
theorem small_length : small.length = 26 := by decide +kernel
theorem addS {a b : Str} (h : a.length + b.length ≤ 100000) : addG (.str a) (.str b) = some (.d (.str (a ++ b))) := by
  show (if a.length + b.length ≤ sizeLine then _ else _) = _
  rw [if_pos (sizeLine_le h)]
theorem idx26' (f s i : Nat) : ((f : Int) + (s : Int) * (i : Int)) % 26 = (((f + s * i) % 26 : Nat) : Int) := by
  rw [Int.natCast_emod, Int.natCast_add, Int.natCast_mul]
  rfl
theorem mulI {i j : Int} (h1 : -(2 ^ 63) ≤ i) (h2 : i < 2 ^ 63) : mulG (.int i) (.int j) = some (.d (.int (i * j))) := by
  have e : (smallI i || smallI j) = true := by
    have : smallI i = true := by rw [Bool.and_eq_true]; exact ⟨decide_eq_true (by omega), decide_eq_true (by omega)⟩
    rw [this, Bool.true_or]
  show (if (smallI i || smallI j) = true then _ else _) = _
  rw [if_pos e]
theorem modI {i j : Int} (h : 0 < j) : modG (.int i) (.int j) = some (.d (.int (i % j))) := by
  show (if decide (0 < j) = true then _ else _) = _
  rw [if_pos (decide_eq_true h)]
theorem addI {a b : Int} : addG (.int a) (.int b) = some (.d (.int (a + b))) := rfl
theorem addL {a b : List D} (h : a.length + b.length ≤ 100000) : addG (.lst a) (.lst b) = some (.lst (a ++ b)) := by
  show (if a.length + b.length ≤ sizeLine then _ else _) = _
  rw [if_pos (sizeLine_le h)]
theorem ex_wd0 {E : EK} {Q : _root_.Q.R → Ps → Prop} {stem z y : Str} {a f s i j : Int} {S : List Cell} {o0 o1 o4 : O} (hmul : mulG (.int s) (.int i) = some (.d (.int (s * i)))) (hadd : addG (.int f) (.int (s * i)) = some (.d (.int (f + s * i)))) (hmod : modG (.int (f + s * i)) (.int 26) = some (.d (.int j))) (hix : ixD (.str z) (.int j) = some (.d (.str y)))
  (h1 : addG (.str (cutS stem none (some a))) (.str y) = some (.d (.str (cutS stem none (some a) ++ y)))) (h2 : addG (.str (cutS stem none (some a) ++ y)) (.str (cutS stem (some a) none)) = some (.d (.str (cutS stem none (some a) ++ y ++ cutS stem (some a) none)))) (hsz : stem.length ≤ sizeLine)
  (h : Q (.v (.str (cutS stem none (some a) ++ y ++ cutS stem (some a) none))) ⟨[o0, o1, .d (.str z), .d (.str stem), o4, .d (.int a), .d (.int f), .d (.int s), .d (.int i)], S, true, false⟩) :
  (xF (xOp addG (xF (xOp addG (xF (xSlS (xV 3) pNo (pSo (xV 5)))) (xF (xOp ixD (xV 2) (xF (xOp modG (xF (xB intG (xCons (xF (xOp addG (xV 6) (xF (xOp mulG (xV 7) (xV 8))))) xNil))) (xC (.int 26)))))))) (xF (xSlS (xV 3) (pSo (xV 5)) pNo)))) E ⟨[o0, o1, .d (.str z), .d (.str stem), o4, .d (.int a), .d (.int f), .d (.int s), .d (.int i)], S, true, false⟩ Q := by
  simp only [mk, sRet, sRetN, sSeq, sNx, sIf, sSet, sSetO, sEx, xU, xF, xB, xCons, xNil, xV, xC, xMv, st0, opt, looks, look, frz, frzs, isiG, tyG, clsG, clssG, O.toD, xAnd, xOr, xNot, xIf, xIfO, xT, xTO, xNotT, xAndT, xOrT, xIfT, xYes, xOp, xUn, xTup, xLst, xCh, xLc, xDc, iA, itemsD, gN, gT, gsC, gsN, sFor, sAsg, isB, iiG0, lenG, listG, tupG, leG, ltG, geG, gtG, intG, Ps.wp, wipeO, xP, xE, cP, cE, isSc, List.map_cons, List.map_nil, List.cons_append, List.nil_append, List.length_cons, List.length_nil, List.getElem?_cons_zero, List.getElem?_cons_succ, List.replicate, List.set_cons_zero, List.set_cons_succ, Nat.reduceSub, Nat.reduceAdd, if_true, if_false, Bool.false_eq_true, reduceCtorEq, truD, Bool.not_true, Bool.not_false, Option.map_some, at0, at1, at2, eqI, neI, true_and, and_true, implies_true, ne_eq, not_false_eq_true, Nat.reduceEqDiff, pNo, pSo, xSlS, hadd, hmul, hmod, hix, h1, h2]
  exact ⟨hsz, hsz, h⟩
theorem ex_wd {E : EK} {Q : _root_.Q.R → Ps → Prop} {y q : Str} {b : Bool} {xs : List D} {i j : Int} {S : List Cell} {o0 o1 o2 o3 o5 o6 o7 : O} (h1 : ixD (.lst xs) (.int i) = some (.d (.str y))) (h2 : modG (.int i) (.int 3) = some (.d (.int j))) (h3 : eqG (.int j) (.int 2) = some (.d (.bl b))) (h4 : mulSG (.str "q") (.int (if b = true then 1 else 0)) = some (.d (.str q))) (h5 : addG (.str y) (.str q) = some (.d (.str (y ++ q))))
  (h : Q (.v (.str (y ++ q))) ⟨[o0, o1, o2, o3, .d (.lst xs), o5, o6, o7, .d (.int i)], S, true, false⟩) :
  (xF (xOp addG (xF (xOp ixD (xV 4) (xV 8))) (xF (xOp mulSG (xC (.str "q")) (xF (xB intG (xCons (xF (xOp eqG (xF (xOp modG (xF (xB intG (xCons (xV 8) xNil))) (xC (.int 3)))) (xC (.int 2)))) xNil))))))) E ⟨[o0, o1, o2, o3, .d (.lst xs), o5, o6, o7, .d (.int i)], S, true, false⟩ Q := by
  simp only [mk, sRet, sRetN, sSeq, sNx, sIf, sSet, sSetO, sEx, xU, xF, xB, xCons, xNil, xV, xC, xMv, st0, opt, looks, look, frz, frzs, isiG, tyG, clsG, clssG, O.toD, xAnd, xOr, xNot, xIf, xIfO, xT, xTO, xNotT, xAndT, xOrT, xIfT, xYes, xOp, xUn, xTup, xLst, xCh, xLc, xDc, iA, itemsD, gN, gT, gsC, gsN, sFor, sAsg, isB, iiG0, lenG, listG, tupG, leG, ltG, geG, gtG, intG, Ps.wp, wipeO, xP, xE, cP, cE, isSc, List.map_cons, List.map_nil, List.cons_append, List.nil_append, List.length_cons, List.length_nil, List.getElem?_cons_zero, List.getElem?_cons_succ, List.replicate, List.set_cons_zero, List.set_cons_succ, Nat.reduceSub, Nat.reduceAdd, if_true, if_false, Bool.false_eq_true, reduceCtorEq, truD, Bool.not_true, Bool.not_false, Option.map_some, at0, at1, at2, eqI, neI, true_and, and_true, implies_true, ne_eq, not_false_eq_true, Nat.reduceEqDiff, h1, h2, h3, h4, h5]
  exact h
theorem w_words {m : Nat} (hm : m ≤ 13) (hn : n + 8 < 2 ^ 60) (h : ∀ ws : List Str, ws.length = m → (∀ x ∈ ws, wordB x = true) → ws.Nodup → ∀ n', n' ≤ n + 8 → Q (.d (.lst (ws.map D.str))) (.pen n' :: R)) : m__law_words K cs [.cell 0, .int m] E (.pen n :: R) Q := by
  unfold m__law_words b__law_words
  simp only [mk, st0, List.map_cons, List.map_nil, List.cons_append, List.nil_append, List.length_cons, List.length_nil, Nat.reduceSub, Nat.reduceAdd, List.replicate]
  refine seq_go fun N1 h1 => ?_
  simp only [mk, sRet, sRetN, sSeq, sNx, sIf, sSet, sSetO, sEx, xU, xF, xB, xCons, xNil, xV, xC, xMv, st0, opt, looks, look, frz, frzs, isiG, tyG, clsG, clssG, O.toD, xAnd, xOr, xNot, xIf, xIfO, xT, xTO, xNotT, xAndT, xOrT, xIfT, xYes, xOp, xUn, xTup, xLst, xCh, xLc, xDc, iA, itemsD, gN, gT, gsC, gsN, sFor, sAsg, isB, iiG0, lenG, listG, tupG, leG, ltG, geG, gtG, intG, Ps.wp, wipeO, xP, xE, cP, cE, isSc, List.map_cons, List.map_nil, List.cons_append, List.nil_append, List.length_cons, List.length_nil, List.getElem?_cons_zero, List.getElem?_cons_succ, List.replicate, List.set_cons_zero, List.set_cons_succ, Nat.reduceSub, Nat.reduceAdd, if_true, if_false, Bool.false_eq_true, reduceCtorEq, truD, Bool.not_true, Bool.not_false, Option.map_some, at0, at1, at2, eqI, neI, true_and, and_true, implies_true, ne_eq, not_false_eq_true, Nat.reduceEqDiff, Bool.not_true]
  refine h1 _ (seq_go fun N2 h2 => ?_)
  simp only [mk, sRet, sRetN, sSeq, sNx, sIf, sSet, sSetO, sEx, xU, xF, xB, xCons, xNil, xV, xC, xMv, st0, opt, looks, look, frz, frzs, isiG, tyG, clsG, clssG, O.toD, xAnd, xOr, xNot, xIf, xIfO, xT, xTO, xNotT, xAndT, xOrT, xIfT, xYes, xOp, xUn, xTup, xLst, xCh, xLc, xDc, iA, itemsD, gN, gT, gsC, gsN, sFor, sAsg, isB, iiG0, lenG, listG, tupG, leG, ltG, geG, gtG, intG, Ps.wp, wipeO, xP, xE, cP, cE, isSc, List.map_cons, List.map_nil, List.cons_append, List.nil_append, List.length_cons, List.length_nil, List.getElem?_cons_zero, List.getElem?_cons_succ, List.replicate, List.set_cons_zero, List.set_cons_succ, Nat.reduceSub, Nat.reduceAdd, if_true, if_false, Bool.false_eq_true, reduceCtorEq, truD, Bool.not_true, Bool.not_false, Option.map_some, at0, at1, at2, eqI, neI, true_and, and_true, implies_true, ne_eq, not_false_eq_true, Nat.reduceEqDiff, xM1, isS, iR1]
  refine w_draw (m := 5) (by omega) (by decide) (by decide) fun k hk => ?_
  simp only [mk, sRet, sRetN, sSeq, sNx, sIf, sSet, sSetO, sEx, xU, xF, xB, xCons, xNil, xV, xC, xMv, st0, opt, looks, look, frz, frzs, isiG, tyG, clsG, clssG, O.toD, xAnd, xOr, xNot, xIf, xIfO, xT, xTO, xNotT, xAndT, xOrT, xIfT, xYes, xOp, xUn, xTup, xLst, xCh, xLc, xDc, iA, itemsD, gN, gT, gsC, gsN, sFor, sAsg, isB, iiG0, lenG, listG, tupG, leG, ltG, geG, gtG, intG, Ps.wp, wipeO, xP, xE, cP, cE, isSc, List.map_cons, List.map_nil, List.cons_append, List.nil_append, List.length_cons, List.length_nil, List.getElem?_cons_zero, List.getElem?_cons_succ, List.replicate, List.set_cons_zero, List.set_cons_succ, Nat.reduceSub, Nat.reduceAdd, if_true, if_false, Bool.false_eq_true, reduceCtorEq, truD, Bool.not_true, Bool.not_false, Option.map_some, at0, at1, at2, eqI, neI, true_and, and_true, implies_true, ne_eq, not_false_eq_true, Nat.reduceEqDiff, Bool.not_true]
  refine ⟨⟨by omega, by omega⟩, ?_⟩
  refine lcW_by (fun ds acc st => ∃ (cs : List Nat) (o8 : O), acc = cs.map (fun c => D.str ⟨#[c]⟩) ∧ (∀ c ∈ cs, lowC c = true) ∧ cs.length + ds.length = k ∧ st = ⟨[.d (.cell 0), .d (.int m), .d (.str small), .un, .un, .un, .un, .un, o8], .pen (n + 1 + cs.length) :: R, true, false⟩) ?_ ?_ _ _ _ ⟨[], _, rfl, fun _ z => absurd z List.not_mem_nil, ?_, rfl⟩
  rotate_left
  · rintro d ds acc st ⟨cs1, o8, rfl, hlow, hlen, rfl⟩ R' hR
    simp only [mk, sRet, sRetN, sSeq, sNx, sIf, sSet, sSetO, sEx, xU, xF, xB, xCons, xNil, xV, xC, xMv, st0, opt, looks, look, frz, frzs, isiG, tyG, clsG, clssG, O.toD, xAnd, xOr, xNot, xIf, xIfO, xT, xTO, xNotT, xAndT, xOrT, xIfT, xYes, xOp, xUn, xTup, xLst, xCh, xLc, xDc, iA, itemsD, gN, gT, gsC, gsN, sFor, sAsg, isB, iiG0, lenG, listG, tupG, leG, ltG, geG, gtG, intG, Ps.wp, wipeO, xP, xE, cP, cE, isSc, List.map_cons, List.map_nil, List.cons_append, List.nil_append, List.length_cons, List.length_nil, List.getElem?_cons_zero, List.getElem?_cons_succ, List.replicate, List.set_cons_zero, List.set_cons_succ, Nat.reduceSub, Nat.reduceAdd, if_true, if_false, Bool.false_eq_true, reduceCtorEq, truD, Bool.not_true, Bool.not_false, Option.map_some, at0, at1, at2, eqI, neI, true_and, and_true, implies_true, ne_eq, not_false_eq_true, Nat.reduceEqDiff, Bool.not_true]
    rw [List.length_cons] at hlen
    refine w_pick_str (s := small) (by omega) (by rw [small_length]; decide) (by rw [small_length]; decide) fun c hc => ?_
    simp only [mk, sRet, sRetN, sSeq, sNx, sIf, sSet, sSetO, sEx, xU, xF, xB, xCons, xNil, xV, xC, xMv, st0, opt, looks, look, frz, frzs, isiG, tyG, clsG, clssG, O.toD, xAnd, xOr, xNot, xIf, xIfO, xT, xTO, xNotT, xAndT, xOrT, xIfT, xYes, xOp, xUn, xTup, xLst, xCh, xLc, xDc, iA, itemsD, gN, gT, gsC, gsN, sFor, sAsg, isB, iiG0, lenG, listG, tupG, leG, ltG, geG, gtG, intG, Ps.wp, wipeO, xP, xE, cP, cE, isSc, List.map_cons, List.map_nil, List.cons_append, List.nil_append, List.length_cons, List.length_nil, List.getElem?_cons_zero, List.getElem?_cons_succ, List.replicate, List.set_cons_zero, List.set_cons_succ, Nat.reduceSub, Nat.reduceAdd, if_true, if_false, Bool.false_eq_true, reduceCtorEq, truD, Bool.not_true, Bool.not_false, Option.map_some, at0, at1, at2, eqI, neI, true_and, and_true, implies_true, ne_eq, not_false_eq_true, Nat.reduceEqDiff, Bool.not_true]
    refine ⟨by rw [List.length_map, sizeLine_eq]; omega, hR _ _ ⟨cs1 ++ [c], .d d, ?_, ?_, ?_, ?_⟩⟩
    · rw [List.map_append]; rfl
    · intro c' hc'
      rcases List.mem_append.mp hc' with hc' | hc'
      · exact hlow c' hc'
      · rw [List.mem_singleton.mp hc']; exact decide_eq_true hc
    · rw [List.length_append, List.length_singleton]; omega
    · rw [List.length_append, List.length_singleton]; rfl
  · rw [Int.toNat_natCast]; unfold rngD; rw [List.length_map, List.length_range, List.length_nil, Nat.zero_add]
  rintro acc st ⟨cs1, o8, rfl, hlow, hlen, rfl⟩
  rw [List.length_nil, Nat.add_zero] at hlen
  have hj : joinG (.str "") (.lst (cs1.map fun c => D.str ⟨#[c]⟩)) = some (.d (.str (Txt.join "" (cs1.map fun c => (⟨#[c]⟩ : Str))))) := by
    have e : strsD (cs1.map fun c => D.str ⟨#[c]⟩) = some (cs1.map fun c => (⟨#[c]⟩ : Str)) := by
      clear hlow hlen
      induction cs1 with
      | nil => rfl
      | cons c cs1 ih => rw [List.map_cons, strsD, ih]; rfl
    unfold joinG
    simp only [e]
    rw [ones_sum, if_pos]
    rw [List.length_map, show (("" : Str)).length = 0 from rfl]
    omega
  obtain ⟨stem, hstem⟩ : ∃ stem, stem = Txt.join "" (cs1.map fun c => (⟨#[c]⟩ : Str)) := ⟨_, rfl⟩
  have hst : tl stem = cs1 := by rw [hstem]; exact tjoin_signs cs1
  have hsl : stem.length = k := by rw [← tl_len, hst]; exact hlen
  simp only [mk, sRet, sRetN, sSeq, sNx, sIf, sSet, sSetO, sEx, xU, xF, xB, xCons, xNil, xV, xC, xMv, st0, opt, looks, look, frz, frzs, isiG, tyG, clsG, clssG, O.toD, xAnd, xOr, xNot, xIf, xIfO, xT, xTO, xNotT, xAndT, xOrT, xIfT, xYes, xOp, xUn, xTup, xLst, xCh, xLc, xDc, iA, itemsD, gN, gT, gsC, gsN, sFor, sAsg, isB, iiG0, lenG, listG, tupG, leG, ltG, geG, gtG, intG, Ps.wp, wipeO, xP, xE, cP, cE, isSc, List.map_cons, List.map_nil, List.cons_append, List.nil_append, List.length_cons, List.length_nil, List.getElem?_cons_zero, List.getElem?_cons_succ, List.replicate, List.set_cons_zero, List.set_cons_succ, Nat.reduceSub, Nat.reduceAdd, if_true, if_false, Bool.false_eq_true, reduceCtorEq, truD, Bool.not_true, Bool.not_false, Option.map_some, at0, at1, at2, eqI, neI, true_and, and_true, implies_true, ne_eq, not_false_eq_true, Nat.reduceEqDiff, show Str.ofString "" = ("" : Str) from rfl, hj, ← hstem]
  refine h2 _ (seq_go fun N3 h3 => ?_)
  simp only [mk, sRet, sRetN, sSeq, sNx, sIf, sSet, sSetO, sEx, xU, xF, xB, xCons, xNil, xV, xC, xMv, st0, opt, looks, look, frz, frzs, isiG, tyG, clsG, clssG, O.toD, xAnd, xOr, xNot, xIf, xIfO, xT, xTO, xNotT, xAndT, xOrT, xIfT, xYes, xOp, xUn, xTup, xLst, xCh, xLc, xDc, iA, itemsD, gN, gT, gsC, gsN, sFor, sAsg, isB, iiG0, lenG, listG, tupG, leG, ltG, geG, gtG, intG, Ps.wp, wipeO, xP, xE, cP, cE, isSc, List.map_cons, List.map_nil, List.cons_append, List.nil_append, List.length_cons, List.length_nil, List.getElem?_cons_zero, List.getElem?_cons_succ, List.replicate, List.set_cons_zero, List.set_cons_succ, Nat.reduceSub, Nat.reduceAdd, if_true, if_false, Bool.false_eq_true, reduceCtorEq, truD, Bool.not_true, Bool.not_false, Option.map_some, at0, at1, at2, eqI, neI, true_and, and_true, implies_true, ne_eq, not_false_eq_true, Nat.reduceEqDiff, addI]
  refine ⟨sizeLine_le (by omega), ?_⟩
  refine w_draw (m := stem.length + 1) (by omega) (by omega) (by omega) fun a ha => ?_
  refine w_draw (m := 26) (by omega) (by decide) (by decide) fun f hf => ?_
  refine ⟨sizeLine_le (by decide), w_pick (by omega) (by decide) (by decide) fun x hx => ?_⟩
  obtain ⟨s, rfl, hs⟩ : ∃ s : Nat, x = D.int (s : Int) ∧ (s = 1 ∨ s = 3 ∨ s = 5 ∨ s = 7 ∨ s = 9 ∨ s = 11) := by
    simp only [List.mem_cons, List.not_mem_nil, or_false] at hx
    rcases hx with rfl | rfl | rfl | rfl | rfl | rfl
    · exact ⟨1, rfl, by simp⟩
    · exact ⟨3, rfl, by simp⟩
    · exact ⟨5, rfl, by simp⟩
    · exact ⟨7, rfl, by simp⟩
    · exact ⟨9, rfl, by simp⟩
    · exact ⟨11, rfl, by simp⟩
  have ok : StemOk stem a f s := ⟨by omega, fun c hc => hlow c (hst ▸ hc), by omega, hf, hs⟩
  refine ⟨sizeLine_le (by decide), h3 _ (seq_go fun N4 h4 => ?_)⟩
  simp only [mk, sRet, sRetN, sSeq, sNx, sIf, sSet, sSetO, sEx, xU, xF, xB, xCons, xNil, xV, xC, xMv, st0, opt, looks, look, frz, frzs, isiG, tyG, clsG, clssG, O.toD, xAnd, xOr, xNot, xIf, xIfO, xT, xTO, xNotT, xAndT, xOrT, xIfT, xYes, xOp, xUn, xTup, xLst, xCh, xLc, xDc, iA, itemsD, gN, gT, gsC, gsN, sFor, sAsg, isB, iiG0, lenG, listG, tupG, leG, ltG, geG, gtG, intG, Ps.wp, wipeO, xP, xE, cP, cE, isSc, List.map_cons, List.map_nil, List.cons_append, List.nil_append, List.length_cons, List.length_nil, List.getElem?_cons_zero, List.getElem?_cons_succ, List.replicate, List.set_cons_zero, List.set_cons_succ, Nat.reduceSub, Nat.reduceAdd, if_true, if_false, Bool.false_eq_true, reduceCtorEq, truD, Bool.not_true, Bool.not_false, Option.map_some, at0, at1, at2, eqI, neI, true_and, and_true, implies_true, ne_eq, not_false_eq_true, Nat.reduceEqDiff, iR1]
  refine ⟨⟨by omega, by omega⟩, ?_⟩
  have hsz : stem.length ≤ sizeLine := sizeLine_le (by omega)
  refine lcW_pure (st0 := ⟨[.d (.cell 0), .d (.int m), .d (.str small), .d (.str stem), .un, .d (.int a), .d (.int f), .d (.int s), .un], .pen (n + 1 + cs1.length + 1 + 1 + 1) :: R, true, false⟩) (fun d => match d with | .int i => some (.str (wd0 stem a f s i.toNat)) | _ => none) _ _ _ rfl ?_ ?_ ?_
  · rw [rng_len, List.length_nil, sizeLine_eq]; omega
  · intro d hd R1 R0 hR
    obtain ⟨i, hi, rfl⟩ := rng_mem hd
    have hmul : mulG (.int (s : Int)) (.int (i : Int)) = some (.d (.int ((s : Int) * (i : Int)))) := mulI (by omega) (by omega)
    have hmod : modG (.int ((f : Int) + (s : Int) * (i : Int))) (.int 26) = some (.d (.int (((f + s * i) % 26 : Nat) : Int))) := by rw [modI (by omega), idx26']
    have hln : (cutS stem none (some (a : Int))).length + (⟨#[letter ((f + s * i) % 26)]⟩ : Str).length ≤ 100000 ∧ (cutS stem none (some (a : Int)) ++ (⟨#[letter ((f + s * i) % 26)]⟩ : Str)).length + (cutS stem (some (a : Int)) none).length ≤ 100000 := by
      rw [← tl_len, ← tl_len, ← tl_len, ← tl_len, tl_app, List.length_append, cut_pre, cut_suf, List.length_take, List.length_drop, tl_len]
      show min a stem.length + 1 ≤ _ ∧ _ + 1 + _ ≤ _
      omega
    have hix : ixD (.str small) (.int (((f + s * i) % 26 : Nat) : Int)) = some (.d (.str ⟨#[letter ((f + s * i) % 26)]⟩)) := by
      show (if small.length ≤ sizeLine then (_ : Option O) else none) = _
      rw [if_pos (sizeLine_le (by rw [small_length]; decide)), atI_nat (letter_get (Nat.mod_lt _ (by decide)))]
      rfl
    simp only [gN, gT, gsC, gsN, xYes, if_true, true_and, and_true, List.length_cons, List.length_nil, Nat.reduceAdd, Nat.zero_add, List.set_cons_zero, List.set_cons_succ, Ps.wp, wipeO]
    trace_state
    refine ex_wd0 hmul addI hmod hix (addS hln.1) (addS hln.2) hsz ?_
    have := hR ⟨[O.d (D.cell 0), O.d (D.int m), O.d (D.str small), O.d (D.str stem), O.un, O.d (D.int a), O.d (D.int f), O.d (D.int s), O.d (D.int (i : Int))], Cell.pen (n + 1 + cs1.length + 1 + 1 + 1) :: R, true, false⟩ rfl
    simp only [Int.toNat_natCast] at this
    exact this
  · have ef : List.filterMap (fun d => match d with | D.int i => some (D.str (wd0 stem a f s i.toNat)) | _ => none) (rngD 0 (m : Int).toNat) = (List.range m).map fun i => D.str (wd0 stem a f s i) := by
      exact fm_rng _ fun i _ => by simp only [Int.toNat_natCast]
    rw [ef]
    clear ef
    simp only [mk, sRet, sRetN, sSeq, sNx, sIf, sSet, sSetO, sEx, xU, xF, xB, xCons, xNil, xV, xC, xMv, st0, opt, looks, look, frz, frzs, isiG, tyG, clsG, clssG, O.toD, xAnd, xOr, xNot, xIf, xIfO, xT, xTO, xNotT, xAndT, xOrT, xIfT, xYes, xOp, xUn, xTup, xLst, xCh, xLc, xDc, iA, itemsD, gN, gT, gsC, gsN, sFor, sAsg, isB, iiG0, lenG, listG, tupG, leG, ltG, geG, gtG, intG, Ps.wp, wipeO, xP, xE, cP, cE, isSc, List.map_cons, List.map_nil, List.cons_append, List.nil_append, List.length_cons, List.length_nil, List.getElem?_cons_zero, List.getElem?_cons_succ, List.replicate, List.set_cons_zero, List.set_cons_succ, Nat.reduceSub, Nat.reduceAdd, if_true, if_false, Bool.false_eq_true, reduceCtorEq, truD, Bool.not_true, Bool.not_false, Option.map_some, at0, at1, at2, eqI, neI, true_and, and_true, implies_true, ne_eq, not_false_eq_true, Nat.reduceEqDiff, Bool.not_true]
    refine h4 _ ?_
    simp only [mk, sRet, sRetN, sSeq, sNx, sIf, sSet, sSetO, sEx, xU, xF, xB, xCons, xNil, xV, xC, xMv, st0, opt, looks, look, frz, frzs, isiG, tyG, clsG, clssG, O.toD, xAnd, xOr, xNot, xIf, xIfO, xT, xTO, xNotT, xAndT, xOrT, xIfT, xYes, xOp, xUn, xTup, xLst, xCh, xLc, xDc, iA, itemsD, gN, gT, gsC, gsN, sFor, sAsg, isB, iiG0, lenG, listG, tupG, leG, ltG, geG, gtG, intG, Ps.wp, wipeO, xP, xE, cP, cE, isSc, List.map_cons, List.map_nil, List.cons_append, List.nil_append, List.length_cons, List.length_nil, List.getElem?_cons_zero, List.getElem?_cons_succ, List.replicate, List.set_cons_zero, List.set_cons_succ, Nat.reduceSub, Nat.reduceAdd, if_true, if_false, Bool.false_eq_true, reduceCtorEq, truD, Bool.not_true, Bool.not_false, Option.map_some, at0, at1, at2, eqI, neI, true_and, and_true, implies_true, ne_eq, not_false_eq_true, Nat.reduceEqDiff, iR1]
    refine ⟨⟨by omega, by omega⟩, ?_⟩
    refine lcW_pure (st0 := ⟨[.d (.cell 0), .d (.int m), .d (.str small), .d (.str stem), .d (.lst ((List.range m).map fun i => D.str (wd0 stem a f s i))), .d (.int a), .d (.int f), .d (.int s), .un], .pen (n + 1 + cs1.length + 1 + 1 + 1) :: R, true, false⟩) (fun d => match d with | .int i => some (.str (wd stem a f s i.toNat)) | _ => none) _ _ _ rfl ?_ ?_ ?_
    · rw [rng_len, List.length_nil, sizeLine_eq]; omega
    · intro d hd R1 R0 hR
      obtain ⟨i, hi, rfl⟩ := rng_mem hd
      have e1 : ixD (.lst ((List.range m).map fun i => D.str (wd0 stem a f s i))) (.int (i : Int)) = some (.d (.str (wd0 stem a f s i))) := by
        show (atI _ _).map O.d = _
        rw [atI_nat (v := D.str (wd0 stem a f s i)) (by rw [List.getElem?_map, List.getElem?_range hi]; rfl)]
        rfl
      have e2 : modG (.int (i : Int)) (.int 3) = some (.d (.int ((i % 3 : Nat) : Int))) := by rw [modI (by omega), Int.natCast_emod]; rfl
      have e3 : eqG (.int ((i % 3 : Nat) : Int)) (.int 2) = some (.d (.bl (decide (i % 3 = 2)))) := by
        show (some (O.d (.bl (PyData.eqv (.int ((i % 3 : Nat) : Int)) (.int 2))))) = _
        rw [eqv_int]
        congr 3
        exact decide_eq_decide.mpr ⟨fun z => by omega, fun z => by omega⟩
      have e4 : mulSG (.str "q") (.int (if decide (i % 3 = 2) = true then 1 else 0)) = some (.d (.str (qs i))) := by
        show (if MulOk "q" _ then some (O.d (.str (Txt.mul "q" _))) else none) = _
        rw [if_pos (mulq_ok _)]
        unfold qs
        simp only [decide_eq_true_eq]
      have hln : (wd0 stem a f s i).length + (qs i).length ≤ 100000 := by
        have := wd0_len (a := a) (f := f) (s := s) (k := i) ok.len
        have := qs_len i
        omega
      simp only [gN, gT, gsC, gsN, xYes, if_true, true_and, and_true, List.length_cons, List.length_nil, Nat.reduceAdd, Nat.zero_add, List.set_cons_zero, List.set_cons_succ, Ps.wp, wipeO]
      refine ex_wd e1 e2 e3 e4 (addS hln) ?_
      have := hR ⟨[.d (.cell 0), .d (.int m), .d (.str small), .d (.str stem), .d (.lst ((List.range m).map fun i => D.str (wd0 stem a f s i))), .d (.int a), .d (.int f), .d (.int s), .d (.int (i : Int))], .pen (n + 1 + cs1.length + 1 + 1 + 1) :: R, true, false⟩ rfl
      simp only [Int.toNat_natCast] at this
      exact this
    · have ef : List.filterMap (fun d => match d with | D.int i => some (D.str (wd stem a f s i.toNat)) | _ => none) (rngD 0 (m : Int).toNat) = (wds stem a f s m).map D.str := by
        unfold wds
        rw [List.map_map]
        exact fm_rng _ fun i _ => by simp only [Int.toNat_natCast]; rfl
      rw [ef]
      simp only [mk, sRet, sRetN, sSeq, sNx, sIf, sSet, sSetO, sEx, xU, xF, xB, xCons, xNil, xV, xC, xMv, st0, opt, looks, look, frz, frzs, isiG, tyG, clsG, clssG, O.toD, xAnd, xOr, xNot, xIf, xIfO, xT, xTO, xNotT, xAndT, xOrT, xIfT, xYes, xOp, xUn, xTup, xLst, xCh, xLc, xDc, iA, itemsD, gN, gT, gsC, gsN, sFor, sAsg, isB, iiG0, lenG, listG, tupG, leG, ltG, geG, gtG, intG, Ps.wp, wipeO, xP, xE, cP, cE, isSc, List.map_cons, List.map_nil, List.cons_append, List.nil_append, List.length_cons, List.length_nil, List.getElem?_cons_zero, List.getElem?_cons_succ, List.replicate, List.set_cons_zero, List.set_cons_succ, Nat.reduceSub, Nat.reduceAdd, if_true, if_false, Bool.false_eq_true, reduceCtorEq, truD, Bool.not_true, Bool.not_false, Option.map_some, at0, at1, at2, eqI, neI, true_and, and_true, implies_true, ne_eq, not_false_eq_true, Nat.reduceEqDiff, Bool.not_true]
      exact h _ (wds_len _ _ _ _ _) (wds_word ok) (wds_nd ok hm) _ (by omega)
end Q
/-! tables, schemas: the program's side -/
namespace Q
open PySem L2 PySem.Spec PyProof.Rows
abbrev Col := Str × Option (List Str)
abbrev Tab := Str × List Col
def mkD : Option (List Str) → D
  | none => .non
  | some ms => .tup (ms.map D.str)
def colD (c : Col) : D := .tup [.str c.1, mkD c.2]
def plD (t : Tab) : D := .tup [.str t.1, .lst (t.2.map colD)]
def scD (sc : List Tab) : D := .lst (sc.map plD)
structure GoodC (c : Col) : Prop where
  w : wordB c.1 = true
  m : ∀ ms, c.2 = some ms → 2 ≤ ms.length ∧ ms.length ≤ 3 ∧ ms.Nodup ∧ ∀ x ∈ ms, wordB x = true
structure GoodT (t : Tab) : Prop where
  w : wordB t.1 = true
  l1 : 1 ≤ t.2.length
  l3 : t.2.length ≤ 3
  nd : (t.2.map (·.1)).Nodup
  c : ∀ c ∈ t.2, GoodC c
structure GoodS (sc : List Tab) : Prop where
  l1 : 1 ≤ sc.length
  l4 : sc.length ≤ 4
  nd : (sc.map (·.1)).Nodup
  t : ∀ t ∈ sc, GoodT t
/-- a column as it is given to the program -/
def argD (c : Col) : D := match c.2 with
  | none => .str c.1
  | some ms => .tup [.str c.1, .lst (ms.map D.str)]
def marksK (cols : List Col) : List (Key × D) := cols.filterMap fun c => c.2.map fun ms => ((Sum.inr c.1 : Key), D.tup (ms.map D.str))
def posK : Nat → List Col → List (Key × D)
  | _, [] => []
  | k, c :: cs => ((Sum.inr c.1 : Key), D.int k) :: posK (k + 1) cs
def tabF (t : Tab) : List (Str × D) := [("own_name", .str t.1), ("own_columns", .tup (t.2.map fun c => D.str c.1)), ("own_marks", .dK (marksK t.2)), ("own_positions", .dK (posK 0 t.2))]
def tabD (cs : Cs) (t : Tab) : D := .ins cs.Table (tabF t)
def tabsK (cs : Cs) (sc : List Tab) : List (Key × D) := sc.map fun t => ((Sum.inr t.1 : Key), tabD cs t)
def schD (cs : Cs) (sc : List Tab) : D := .ins cs.Schema [("own_tables", .dK (tabsK cs sc))]
variable {K : PySem.W.Frag} {cs : Cs} {E : EF} {S : List Cell} {Q : O → List Cell → Prop}
theorem kit_sT : PySem.W.kitOne K (.type "str") (.type "tuple") = some false := by rfl
theorem kit_tS : PySem.W.kitOne K (.type "tuple") (.type "str") = some false := by rfl
theorem all_true {α : Type} (xs : List α) : ((xs.map fun _ => true).all id) = true := by
  rw [List.all_map]
  exact List.all_eq_true.mpr fun _ _ => rfl
theorem bls_true {α : Type} (xs : List α) : blsD (xs.map fun _ => D.bl true) = some (xs.map fun _ => true) := bls_map (fun _ => true) xs
theorem fm_const {α β : Type} (b : β) (xs : List α) : xs.filterMap (fun _ => some b) = xs.map fun _ => b := congrFun (List.filterMap_eq_map (f := fun _ => b)) xs
theorem valD_none {κ : Type} [DecidableEq κ] {kvs : List (κ × D)} {k : κ} (h : k ∉ kvs.map (·.1)) : valD kvs k = none := by
  unfold valD
  rw [List.find?_eq_none.mpr]
  · rfl
  · intro kv hkv z
    exact h (List.mem_map.mpr ⟨kv, hkv, of_decide_eq_true z⟩)
theorem valD_of {κ : Type} [DecidableEq κ] : ∀ {kvs : List (κ × D)} {k : κ} {v : D}, (kvs.map (·.1)).Nodup → (k, v) ∈ kvs → valD kvs k = some v
  | [], _, _, _, h => absurd h List.not_mem_nil
  | kv :: kvs, k, v, nd, h => by
    rw [List.map_cons, List.nodup_cons] at nd
    unfold valD
    rw [List.find?_cons]
    by_cases e : kv.1 = k
    · rw [decide_eq_true e]
      rcases List.mem_cons.mp h with h | h
      · rw [← h]; rfl
      · exact absurd (List.mem_map.mpr ⟨_, h, rfl⟩) (by rw [e] at nd; exact nd.1)
    · rw [decide_eq_false e]
      rcases List.mem_cons.mp h with h | h
      · exact absurd (by rw [← h]) e
      · exact valD_of nd.2 h
theorem inr_inj : ∀ a b : Str, (Sum.inr a : Key) = Sum.inr b → a = b := fun _ _ e => Sum.inr.inj e
theorem nd_inr {xs : List Str} (h : xs.Nodup) : (xs.map fun x => (Sum.inr x : Key)).Nodup := nodup_map_on h fun a _ b _ e => Sum.inr.inj e
theorem tabs_keys (cs : Cs) (sc : List Tab) : (tabsK cs sc).map (·.1) = (sc.map (·.1)).map fun x => (Sum.inr x : Key) := by
  unfold tabsK
  rw [List.map_map, List.map_map]
  rfl
theorem tabs_val {cs : Cs} {sc : List Tab} (nd : (sc.map (·.1)).Nodup) {t : Tab} (h : t ∈ sc) : valD (tabsK cs sc) (Sum.inr t.1 : Key) = some (tabD cs t) :=
  valD_of (by rw [tabs_keys]; exact nd_inr nd) (List.mem_map.mpr ⟨t, h, rfl⟩)
theorem tabs_none {cs : Cs} {sc : List Tab} {n : Str} (h : n ∉ sc.map (·.1)) : valD (tabsK cs sc) (Sum.inr n : Key) = none :=
  valD_none (by rw [tabs_keys]; intro z; obtain ⟨x, hx, e⟩ := List.mem_map.mp z; exact h (Sum.inr.inj e ▸ hx))
def ixOf (cols : List Col) (c : Str) : Nat := cols.findIdx fun x => decide (x.1 = c)
theorem pos_keys : ∀ (k : Nat) (cols : List Col), (posK k cols).map (·.1) = (cols.map (·.1)).map fun x => (Sum.inr x : Key)
  | _, [] => rfl
  | k, c :: cs => by rw [posK, List.map_cons, pos_keys (k + 1) cs]; rfl
theorem pos_val {c : Str} : ∀ {cols : List Col} (k : Nat), c ∈ cols.map (·.1) → valD (posK k cols) (Sum.inr c : Key) = some (.int ((k + ixOf cols c : Nat) : Int))
  | [], _, h => absurd h List.not_mem_nil
  | x :: cols, k, h => by
    unfold valD posK ixOf
    rw [List.find?_cons, List.findIdx_cons]
    by_cases e : x.1 = c
    · rw [decide_eq_true (show (Sum.inr x.1 : Key) = Sum.inr c by rw [e]), decide_eq_true e]
      rfl
    · rw [decide_eq_false (show ¬ (Sum.inr x.1 : Key) = Sum.inr c from fun z => e (Sum.inr.inj z)), decide_eq_false e]
      have := pos_val (cols := cols) (k + 1) ((List.mem_cons.mp h).resolve_left fun z => e z.symm)
      unfold valD ixOf at this
      rw [this]
      simp only [cond_false]
      rw [show k + 1 + List.findIdx (fun x => decide (x.1 = c)) cols = k + (List.findIdx (fun x => decide (x.1 = c)) cols + 1) by omega]
theorem pos_none {c : Str} {cols : List Col} (h : c ∉ cols.map (·.1)) (k : Nat) : valD (posK k cols) (Sum.inr c : Key) = none :=
  valD_none (by rw [pos_keys]; intro z; obtain ⟨x, hx, e⟩ := List.mem_map.mp z; exact h (Sum.inr.inj e ▸ hx))
theorem ix_lt {c : Str} {cols : List Col} (h : c ∈ cols.map (·.1)) : ixOf cols c < cols.length := by
  obtain ⟨x, hx, e⟩ := List.mem_map.mp h
  exact List.findIdx_lt_length_of_exists ⟨x, hx, decide_eq_true e⟩
theorem ix_at {c : Str} {cols : List Col} (h : c ∈ cols.map (·.1)) : (cols[ixOf cols c]'(ix_lt h)).1 = c := of_decide_eq_true (List.findIdx_getElem (p := fun x : Col => decide (x.1 = c)) (w := ix_lt h))
theorem marks_keys : ∀ {cols : List Col}, (cols.map (·.1)).Nodup → ((marksK cols).map (·.1)).Nodup := by
  intro cols nd
  have : ((marksK cols).map (·.1)).Sublist ((cols.map (·.1)).map fun x => (Sum.inr x : Key)) := by
    unfold marksK
    clear nd
    induction cols with
    | nil => exact List.Sublist.refl _
    | cons c cs ih =>
      rw [List.filterMap_cons]
      cases c.2 with
      | none => exact List.Sublist.cons _ ih
      | some ms => exact List.Sublist.cons₂ _ ih
  exact this.nodup (nd_inr nd)
theorem marks_val {cols : List Col} (nd : (cols.map (·.1)).Nodup) {c : Col} (h : c ∈ cols) : valD (marksK cols) (Sum.inr c.1 : Key) = c.2.map fun ms => D.tup (ms.map D.str) := by
  cases e : c.2 with
  | some ms => exact valD_of (marks_keys nd) (List.mem_filterMap.mpr ⟨c, h, by rw [e]; rfl⟩)
  | none =>
    refine valD_none fun z => ?_
    obtain ⟨kv, h1, h2⟩ := List.mem_map.mp z
    obtain ⟨c', h3, h4⟩ := List.mem_filterMap.mp h1
    cases e' : c'.2 with
    | none => rw [e'] at h4; cases h4
    | some ms =>
      rw [e'] at h4
      have h5 : ((Sum.inr c'.1 : Key), D.tup (ms.map D.str)) = kv := Option.some.inj h4
      have h6 : c'.1 = c.1 := by rw [← h5] at h2; exact Sum.inr.inj h2
      obtain ⟨i, hi, ei⟩ := List.getElem_of_mem h
      obtain ⟨j, hj, ej⟩ := List.getElem_of_mem h3
      have : i = j := (List.getElem?_inj (by rw [List.length_map]; exact hi) nd).mp (by rw [List.getElem?_map, List.getElem?_map, List.getElem?_eq_getElem hi, List.getElem?_eq_getElem hj, ei, ej]; exact congrArg some h6.symm)
      subst this
      rw [ei] at ej
      rw [ej, e'] at e
      cases e
theorem w_is_mark {c : Str} {ms : List Str} (hc : wordB c = true) (h2 : 2 ≤ ms.length) (h3 : ms.length ≤ 3) (nd : ms.Nodup) (hm : ∀ x ∈ ms, wordB x = true) (h : Q (.d (.bl true)) S) : m_is_mark_column K cs [.tup [.str c, .lst (ms.map D.str)]] E S Q := by
  have ho : ∀ x ∈ ms, PyData.strOk x = true := fun x hx => word_ok (hm x hx)
  unfold m_is_mark_column b_is_mark_column
  simp only [mk, st0, List.map_cons, List.map_nil, List.cons_append, List.nil_append, List.length_cons, List.length_nil, Nat.reduceSub, Nat.reduceAdd, List.replicate]
  refine seq_go fun N1 h1 => ?_
  have e2 : decide (((2 : Nat) : Int) = 2) = true := by decide
  simp only [mk, sRet, sRetN, sSeq, sNx, sIf, sSet, sSetO, sEx, xU, xF, xB, xCons, xNil, xV, xC, xMv, st0, opt, looks, look, frz, frzs, isiG, tyG, clsG, clssG, O.toD, xAnd, xOr, xNot, xIf, xIfO, xT, xTO, xNotT, xAndT, xOrT, xIfT, xYes, xOp, xUn, xTup, xLst, xCh, xLc, xDc, iA, itemsD, gN, gT, gsC, gsN, sFor, sAsg, isB, iiG0, lenG, listG, tupG, leG, ltG, geG, gtG, intG, Ps.wp, wipeO, xP, xE, cP, cE, isSc, List.map_cons, List.map_nil, List.cons_append, List.nil_append, List.length_cons, List.length_nil, List.getElem?_cons_zero, List.getElem?_cons_succ, List.replicate, List.set_cons_zero, List.set_cons_succ, Nat.reduceSub, Nat.reduceAdd, if_true, if_false, Bool.false_eq_true, reduceCtorEq, truD, Bool.not_true, Bool.not_false, Option.map_some, at0, at1, at2, eqI, neI, true_and, and_true, implies_true, ne_eq, not_false_eq_true, Nat.reduceEqDiff, kit_tt, ixD, e2]
  refine w_is_word hc ?_
  simp only [mk, sRet, sRetN, sSeq, sNx, sIf, sSet, sSetO, sEx, xU, xF, xB, xCons, xNil, xV, xC, xMv, st0, opt, looks, look, frz, frzs, isiG, tyG, clsG, clssG, O.toD, xAnd, xOr, xNot, xIf, xIfO, xT, xTO, xNotT, xAndT, xOrT, xIfT, xYes, xOp, xUn, xTup, xLst, xCh, xLc, xDc, iA, itemsD, gN, gT, gsC, gsN, sFor, sAsg, isB, iiG0, lenG, listG, tupG, leG, ltG, geG, gtG, intG, Ps.wp, wipeO, xP, xE, cP, cE, isSc, List.map_cons, List.map_nil, List.cons_append, List.nil_append, List.length_cons, List.length_nil, List.getElem?_cons_zero, List.getElem?_cons_succ, List.replicate, List.set_cons_zero, List.set_cons_succ, Nat.reduceSub, Nat.reduceAdd, if_true, if_false, Bool.false_eq_true, reduceCtorEq, truD, Bool.not_true, Bool.not_false, Option.map_some, at0, at1, at2, eqI, neI, true_and, and_true, implies_true, ne_eq, not_false_eq_true, Nat.reduceEqDiff, Bool.not_true]
  refine w_is_list_lst ?_
  simp only [mk, sRet, sRetN, sSeq, sNx, sIf, sSet, sSetO, sEx, xU, xF, xB, xCons, xNil, xV, xC, xMv, st0, opt, looks, look, frz, frzs, isiG, tyG, clsG, clssG, O.toD, xAnd, xOr, xNot, xIf, xIfO, xT, xTO, xNotT, xAndT, xOrT, xIfT, xYes, xOp, xUn, xTup, xLst, xCh, xLc, xDc, iA, itemsD, gN, gT, gsC, gsN, sFor, sAsg, isB, iiG0, lenG, listG, tupG, leG, ltG, geG, gtG, intG, Ps.wp, wipeO, xP, xE, cP, cE, isSc, List.map_cons, List.map_nil, List.cons_append, List.nil_append, List.length_cons, List.length_nil, List.getElem?_cons_zero, List.getElem?_cons_succ, List.replicate, List.set_cons_zero, List.set_cons_succ, Nat.reduceSub, Nat.reduceAdd, if_true, if_false, Bool.false_eq_true, reduceCtorEq, truD, Bool.not_true, Bool.not_false, Option.map_some, at0, at1, at2, eqI, neI, true_and, and_true, implies_true, ne_eq, not_false_eq_true, Nat.reduceEqDiff, Bool.not_true]
  refine h1 _ (seq_go fun N2 h2' => ?_)
  simp only [mk, sRet, sRetN, sSeq, sNx, sIf, sSet, sSetO, sEx, xU, xF, xB, xCons, xNil, xV, xC, xMv, st0, opt, looks, look, frz, frzs, isiG, tyG, clsG, clssG, O.toD, xAnd, xOr, xNot, xIf, xIfO, xT, xTO, xNotT, xAndT, xOrT, xIfT, xYes, xOp, xUn, xTup, xLst, xCh, xLc, xDc, iA, itemsD, gN, gT, gsC, gsN, sFor, sAsg, isB, iiG0, lenG, listG, tupG, leG, ltG, geG, gtG, intG, Ps.wp, wipeO, xP, xE, cP, cE, isSc, List.map_cons, List.map_nil, List.cons_append, List.nil_append, List.length_cons, List.length_nil, List.getElem?_cons_zero, List.getElem?_cons_succ, List.replicate, List.set_cons_zero, List.set_cons_succ, Nat.reduceSub, Nat.reduceAdd, if_true, if_false, Bool.false_eq_true, reduceCtorEq, truD, Bool.not_true, Bool.not_false, Option.map_some, at0, at1, at2, eqI, neI, true_and, and_true, implies_true, ne_eq, not_false_eq_true, Nat.reduceEqDiff, ixD]
  refine h2' _ ?_
  have g1 : decide ((2 : Int) ≤ ((ms.length : Nat) : Int)) = true := decide_eq_true (by omega)
  have g2 : decide (((ms.length : Nat) : Int) ≤ 3) = true := decide_eq_true (by omega)
  simp only [mk, sRet, sRetN, sSeq, sNx, sIf, sSet, sSetO, sEx, xU, xF, xB, xCons, xNil, xV, xC, xMv, st0, opt, looks, look, frz, frzs, isiG, tyG, clsG, clssG, O.toD, xAnd, xOr, xNot, xIf, xIfO, xT, xTO, xNotT, xAndT, xOrT, xIfT, xYes, xOp, xUn, xTup, xLst, xCh, xLc, xDc, iA, itemsD, gN, gT, gsC, gsN, sFor, sAsg, isB, iiG0, lenG, listG, tupG, leG, ltG, geG, gtG, intG, Ps.wp, wipeO, xP, xE, cP, cE, isSc, List.map_cons, List.map_nil, List.cons_append, List.nil_append, List.length_cons, List.length_nil, List.getElem?_cons_zero, List.getElem?_cons_succ, List.replicate, List.set_cons_zero, List.set_cons_succ, Nat.reduceSub, Nat.reduceAdd, if_true, if_false, Bool.false_eq_true, reduceCtorEq, truD, Bool.not_true, Bool.not_false, Option.map_some, at0, at1, at2, eqI, neI, true_and, and_true, implies_true, ne_eq, not_false_eq_true, Nat.reduceEqDiff, List.length_map, g1, g2]
  refine lcW_pure (st0 := ⟨[O.d (.tup [.str c, .lst (ms.map D.str)]), .d (.lst (ms.map D.str)), .un], S, false, false⟩) (fun d => some (.bl true)) _ _ _ rfl ?_ ?_ ?_
  · rw [List.length_map, sizeLine_eq, List.length_nil]; omega
  · intro d hd R1 R0 hR
    obtain ⟨x, hx, rfl⟩ := List.mem_map.mp hd
    simp only [mk, sRet, sRetN, sSeq, sNx, sIf, sSet, sSetO, sEx, xU, xF, xB, xCons, xNil, xV, xC, xMv, st0, opt, looks, look, frz, frzs, isiG, tyG, clsG, clssG, O.toD, xAnd, xOr, xNot, xIf, xIfO, xT, xTO, xNotT, xAndT, xOrT, xIfT, xYes, xOp, xUn, xTup, xLst, xCh, xLc, xDc, iA, itemsD, gN, gT, gsC, gsN, sFor, sAsg, isB, iiG0, lenG, listG, tupG, leG, ltG, geG, gtG, intG, Ps.wp, wipeO, xP, xE, cP, cE, isSc, List.map_cons, List.map_nil, List.cons_append, List.nil_append, List.length_cons, List.length_nil, List.getElem?_cons_zero, List.getElem?_cons_succ, List.replicate, List.set_cons_zero, List.set_cons_succ, Nat.reduceSub, Nat.reduceAdd, if_true, if_false, Bool.false_eq_true, reduceCtorEq, truD, Bool.not_true, Bool.not_false, Option.map_some, at0, at1, at2, eqI, neI, true_and, and_true, implies_true, ne_eq, not_false_eq_true, Nat.reduceEqDiff, Bool.not_true]
    refine w_is_word (hm x hx) ?_
    simp only [mk, sRet, sRetN, sSeq, sNx, sIf, sSet, sSetO, sEx, xU, xF, xB, xCons, xNil, xV, xC, xMv, st0, opt, looks, look, frz, frzs, isiG, tyG, clsG, clssG, O.toD, xAnd, xOr, xNot, xIf, xIfO, xT, xTO, xNotT, xAndT, xOrT, xIfT, xYes, xOp, xUn, xTup, xLst, xCh, xLc, xDc, iA, itemsD, gN, gT, gsC, gsN, sFor, sAsg, isB, iiG0, lenG, listG, tupG, leG, ltG, geG, gtG, intG, Ps.wp, wipeO, xP, xE, cP, cE, isSc, List.map_cons, List.map_nil, List.cons_append, List.nil_append, List.length_cons, List.length_nil, List.getElem?_cons_zero, List.getElem?_cons_succ, List.replicate, List.set_cons_zero, List.set_cons_succ, Nat.reduceSub, Nat.reduceAdd, if_true, if_false, Bool.false_eq_true, reduceCtorEq, truD, Bool.not_true, Bool.not_false, Option.map_some, at0, at1, at2, eqI, neI, true_and, and_true, implies_true, ne_eq, not_false_eq_true, Nat.reduceEqDiff, Bool.not_true]
    exact hR _ rfl
  · simp only [mk, sRet, sRetN, sSeq, sNx, sIf, sSet, sSetO, sEx, xU, xF, xB, xCons, xNil, xV, xC, xMv, st0, opt, looks, look, frz, frzs, isiG, tyG, clsG, clssG, O.toD, xAnd, xOr, xNot, xIf, xIfO, xT, xTO, xNotT, xAndT, xOrT, xIfT, xYes, xOp, xUn, xTup, xLst, xCh, xLc, xDc, iA, itemsD, gN, gT, gsC, gsN, sFor, sAsg, isB, iiG0, lenG, listG, tupG, leG, ltG, geG, gtG, intG, Ps.wp, wipeO, xP, xE, cP, cE, isSc, List.map_cons, List.map_nil, List.cons_append, List.nil_append, List.length_cons, List.length_nil, List.getElem?_cons_zero, List.getElem?_cons_succ, List.replicate, List.set_cons_zero, List.set_cons_succ, Nat.reduceSub, Nat.reduceAdd, if_true, if_false, Bool.false_eq_true, reduceCtorEq, truD, Bool.not_true, Bool.not_false, Option.map_some, at0, at1, at2, eqI, neI, true_and, and_true, implies_true, ne_eq, not_false_eq_true, Nat.reduceEqDiff, fm_const, allG, bls_true, all_true]
    refine w_are_different ho nd (by omega) ?_
    simp only [mk, sRet, sRetN, sSeq, sNx, sIf, sSet, sSetO, sEx, xU, xF, xB, xCons, xNil, xV, xC, xMv, st0, opt, looks, look, frz, frzs, isiG, tyG, clsG, clssG, O.toD, xAnd, xOr, xNot, xIf, xIfO, xT, xTO, xNotT, xAndT, xOrT, xIfT, xYes, xOp, xUn, xTup, xLst, xCh, xLc, xDc, iA, itemsD, gN, gT, gsC, gsN, sFor, sAsg, isB, iiG0, lenG, listG, tupG, leG, ltG, geG, gtG, intG, Ps.wp, wipeO, xP, xE, cP, cE, isSc, List.map_cons, List.map_nil, List.cons_append, List.nil_append, List.length_cons, List.length_nil, List.getElem?_cons_zero, List.getElem?_cons_succ, List.replicate, List.set_cons_zero, List.set_cons_succ, Nat.reduceSub, Nat.reduceAdd, if_true, if_false, Bool.false_eq_true, reduceCtorEq, truD, Bool.not_true, Bool.not_false, Option.map_some, at0, at1, at2, eqI, neI, true_and, and_true, implies_true, ne_eq, not_false_eq_true, Nat.reduceEqDiff, Bool.not_true]
    exact h
end Q
namespace Q
open PySem L2 PySem.Spec PyProof.Rows
variable {K : PySem.W.Frag} {cs : Cs} {E : EF} {S : List Cell} {Q : O → List Cell → Prop}
theorem nf01 : (Str.ofString "own_name" = Str.ofString "own_columns") = False := eq_false (by decide +kernel)
theorem nf02 : (Str.ofString "own_name" = Str.ofString "own_marks") = False := eq_false (by decide +kernel)
theorem nf12 : (Str.ofString "own_columns" = Str.ofString "own_marks") = False := eq_false (by decide +kernel)
theorem nf03 : (Str.ofString "own_name" = Str.ofString "own_positions") = False := eq_false (by decide +kernel)
theorem nf13 : (Str.ofString "own_columns" = Str.ofString "own_positions") = False := eq_false (by decide +kernel)
theorem nf23 : (Str.ofString "own_marks" = Str.ofString "own_positions") = False := eq_false (by decide +kernel)
theorem marks_fm (cols : List Col) : List.filterMap (fun d => match d with | D.tup [.str c, .lst ms] => some ((Sum.inr c : Key), D.tup ms) | _ => none) (cols.map argD) = marksK cols := by
  unfold marksK
  rw [List.filterMap_map]
  refine fm_congr fun c _ => ?_
  obtain ⟨c, o⟩ := c
  cases o <;> rfl
theorem pos_fm' : ∀ (cols : List Col) (k : Nat), List.filterMap (fun d => match d with | D.tup [.int k, .str c] => some ((Sum.inr c : Key), D.int k) | _ => none) (enumD k ((cols.map (·.1)).map D.str)) = posK k cols
  | [], _ => rfl
  | c :: cols, k => by
    rw [List.map_cons, List.map_cons, enumD, List.filterMap_cons]
    show (_ :: List.filterMap _ (enumD (k + 1) _)) = _
    rw [pos_fm' cols (k + 1)]
    rfl
theorem pos_fm (cols : List Col) : List.filterMap (fun d => match d with | D.tup [.int k, .str c] => some ((Sum.inr c : Key), D.int k) | _ => none) (enumD 0 ((cols.map (·.1)).map D.str)) = posK 0 cols := pos_fm' cols 0
variable {QI : List (Str × D) → List Cell → Prop} {x : Addr}
theorem arg_none (c : Str) : argD (c, none) = .str c := rfl
theorem arg_some (c : Str) (ms : List Str) : argD (c, some ms) = .tup [.str c, .lst (ms.map D.str)] := rfl
theorem w_table_init (fk : Fk K cs) {t : Tab} (g : GoodT t) (h : QI (tabF t) S) : i_Table___init__ K cs x [] (.str t.1 :: t.2.map argD) E S QI := by
  have l1 := g.l1
  have l3 := g.l3
  unfold i_Table___init__
  refine ⟨by rw [List.length_cons]; omega, by show (t.2.map argD).length ≤ sizeLine; rw [List.length_map]; exact sizeLine_le (by omega), ?_⟩
  show mkI cs.Table false 7 (b_Table___init__ K cs) x [] [.str t.1, .tup (t.2.map argD)] E S QI
  unfold b_Table___init__
  simp only [mk, st0, List.map_cons, List.map_nil, List.cons_append, List.nil_append, List.length_cons, List.length_nil, Nat.reduceSub, Nat.reduceAdd, List.replicate, mkI]
  refine seq_go fun N1 h1 => ?_
  simp only [mk, sRet, sRetN, sSeq, sNx, sIf, sSet, sSetO, sEx, xU, xF, xB, xCons, xNil, xV, xC, xMv, st0, opt, looks, look, frz, frzs, isiG, tyG, clsG, clssG, O.toD, xAnd, xOr, xNot, xIf, xIfO, xT, xTO, xNotT, xAndT, xOrT, xIfT, xYes, xOp, xUn, xTup, xLst, xCh, xLc, xDc, iA, itemsD, gN, gT, gsC, gsN, sFor, sAsg, isB, iiG0, lenG, listG, tupG, leG, ltG, geG, gtG, intG, Ps.wp, wipeO, xP, xE, cP, cE, isSc, List.map_cons, List.map_nil, List.cons_append, List.nil_append, List.length_cons, List.length_nil, List.getElem?_cons_zero, List.getElem?_cons_succ, List.replicate, List.set_cons_zero, List.set_cons_succ, Nat.reduceSub, Nat.reduceAdd, if_true, if_false, Bool.false_eq_true, reduceCtorEq, truD, Bool.not_true, Bool.not_false, Option.map_some, at0, at1, at2, eqI, neI, true_and, and_true, implies_true, ne_eq, not_false_eq_true, Nat.reduceEqDiff, Bool.not_true]
  refine w_is_word g.w ?_
  simp only [mk, sRet, sRetN, sSeq, sNx, sIf, sSet, sSetO, sEx, xU, xF, xB, xCons, xNil, xV, xC, xMv, st0, opt, looks, look, frz, frzs, isiG, tyG, clsG, clssG, O.toD, xAnd, xOr, xNot, xIf, xIfO, xT, xTO, xNotT, xAndT, xOrT, xIfT, xYes, xOp, xUn, xTup, xLst, xCh, xLc, xDc, iA, itemsD, gN, gT, gsC, gsN, sFor, sAsg, isB, iiG0, lenG, listG, tupG, leG, ltG, geG, gtG, intG, Ps.wp, wipeO, xP, xE, cP, cE, isSc, List.map_cons, List.map_nil, List.cons_append, List.nil_append, List.length_cons, List.length_nil, List.getElem?_cons_zero, List.getElem?_cons_succ, List.replicate, List.set_cons_zero, List.set_cons_succ, Nat.reduceSub, Nat.reduceAdd, if_true, if_false, Bool.false_eq_true, reduceCtorEq, truD, Bool.not_true, Bool.not_false, Option.map_some, at0, at1, at2, eqI, neI, true_and, and_true, implies_true, ne_eq, not_false_eq_true, Nat.reduceEqDiff, Bool.not_true]
  refine h1 _ (seq_go fun N2 h2 => ?_)
  have g1 : decide ((1 : Int) ≤ ((t.2.length : Nat) : Int)) = true := decide_eq_true (by omega)
  have g2 : decide (((t.2.length : Nat) : Int) ≤ 3) = true := decide_eq_true (by omega)
  simp only [mk, sRet, sRetN, sSeq, sNx, sIf, sSet, sSetO, sEx, xU, xF, xB, xCons, xNil, xV, xC, xMv, st0, opt, looks, look, frz, frzs, isiG, tyG, clsG, clssG, O.toD, xAnd, xOr, xNot, xIf, xIfO, xT, xTO, xNotT, xAndT, xOrT, xIfT, xYes, xOp, xUn, xTup, xLst, xCh, xLc, xDc, iA, itemsD, gN, gT, gsC, gsN, sFor, sAsg, isB, iiG0, lenG, listG, tupG, leG, ltG, geG, gtG, intG, Ps.wp, wipeO, xP, xE, cP, cE, isSc, List.map_cons, List.map_nil, List.cons_append, List.nil_append, List.length_cons, List.length_nil, List.getElem?_cons_zero, List.getElem?_cons_succ, List.replicate, List.set_cons_zero, List.set_cons_succ, Nat.reduceSub, Nat.reduceAdd, if_true, if_false, Bool.false_eq_true, reduceCtorEq, truD, Bool.not_true, Bool.not_false, Option.map_some, at0, at1, at2, eqI, neI, true_and, and_true, implies_true, ne_eq, not_false_eq_true, Nat.reduceEqDiff, List.length_map, g1, g2]
  refine lcW_pure (st0 := ⟨[O.ins x cs.Table [], O.d (D.str t.1), O.d (D.tup (t.2.map argD)), O.un, O.un, O.un, O.un], S, false, false⟩) (fun d => some (.bl true)) _ _ _ rfl ?_ ?_ ?_
  · rw [List.length_map, sizeLine_eq, List.length_nil]; omega
  · intro d hd R1 R0 hR
    obtain ⟨⟨c, o⟩, hx, rfl⟩ := List.mem_map.mp hd
    have gc := g.c _ hx
    cases o with
    | none =>
      rw [arg_none]
      simp only [mk, sRet, sRetN, sSeq, sNx, sIf, sSet, sSetO, sEx, xU, xF, xB, xCons, xNil, xV, xC, xMv, st0, opt, looks, look, frz, frzs, isiG, tyG, clsG, clssG, O.toD, xAnd, xOr, xNot, xIf, xIfO, xT, xTO, xNotT, xAndT, xOrT, xIfT, xYes, xOp, xUn, xTup, xLst, xCh, xLc, xDc, iA, itemsD, gN, gT, gsC, gsN, sFor, sAsg, isB, iiG0, lenG, listG, tupG, leG, ltG, geG, gtG, intG, Ps.wp, wipeO, xP, xE, cP, cE, isSc, List.map_cons, List.map_nil, List.cons_append, List.nil_append, List.length_cons, List.length_nil, List.getElem?_cons_zero, List.getElem?_cons_succ, List.replicate, List.set_cons_zero, List.set_cons_succ, Nat.reduceSub, Nat.reduceAdd, if_true, if_false, Bool.false_eq_true, reduceCtorEq, truD, Bool.not_true, Bool.not_false, Option.map_some, at0, at1, at2, eqI, neI, true_and, and_true, implies_true, ne_eq, not_false_eq_true, Nat.reduceEqDiff, Bool.not_true]
      refine w_is_word gc.w ?_
      simp only [mk, sRet, sRetN, sSeq, sNx, sIf, sSet, sSetO, sEx, xU, xF, xB, xCons, xNil, xV, xC, xMv, st0, opt, looks, look, frz, frzs, isiG, tyG, clsG, clssG, O.toD, xAnd, xOr, xNot, xIf, xIfO, xT, xTO, xNotT, xAndT, xOrT, xIfT, xYes, xOp, xUn, xTup, xLst, xCh, xLc, xDc, iA, itemsD, gN, gT, gsC, gsN, sFor, sAsg, isB, iiG0, lenG, listG, tupG, leG, ltG, geG, gtG, intG, Ps.wp, wipeO, xP, xE, cP, cE, isSc, List.map_cons, List.map_nil, List.cons_append, List.nil_append, List.length_cons, List.length_nil, List.getElem?_cons_zero, List.getElem?_cons_succ, List.replicate, List.set_cons_zero, List.set_cons_succ, Nat.reduceSub, Nat.reduceAdd, if_true, if_false, Bool.false_eq_true, reduceCtorEq, truD, Bool.not_true, Bool.not_false, Option.map_some, at0, at1, at2, eqI, neI, true_and, and_true, implies_true, ne_eq, not_false_eq_true, Nat.reduceEqDiff, Bool.not_true]
      exact hR _ rfl
    | some ms =>
      obtain ⟨m1, m2, m3, m4⟩ := gc.m ms rfl
      rw [arg_some]
      simp only [mk, sRet, sRetN, sSeq, sNx, sIf, sSet, sSetO, sEx, xU, xF, xB, xCons, xNil, xV, xC, xMv, st0, opt, looks, look, frz, frzs, isiG, tyG, clsG, clssG, O.toD, xAnd, xOr, xNot, xIf, xIfO, xT, xTO, xNotT, xAndT, xOrT, xIfT, xYes, xOp, xUn, xTup, xLst, xCh, xLc, xDc, iA, itemsD, gN, gT, gsC, gsN, sFor, sAsg, isB, iiG0, lenG, listG, tupG, leG, ltG, geG, gtG, intG, Ps.wp, wipeO, xP, xE, cP, cE, isSc, List.map_cons, List.map_nil, List.cons_append, List.nil_append, List.length_cons, List.length_nil, List.getElem?_cons_zero, List.getElem?_cons_succ, List.replicate, List.set_cons_zero, List.set_cons_succ, Nat.reduceSub, Nat.reduceAdd, if_true, if_false, Bool.false_eq_true, reduceCtorEq, truD, Bool.not_true, Bool.not_false, Option.map_some, at0, at1, at2, eqI, neI, true_and, and_true, implies_true, ne_eq, not_false_eq_true, Nat.reduceEqDiff, Bool.not_true]
      refine w_is_word_tup ?_
      simp only [mk, sRet, sRetN, sSeq, sNx, sIf, sSet, sSetO, sEx, xU, xF, xB, xCons, xNil, xV, xC, xMv, st0, opt, looks, look, frz, frzs, isiG, tyG, clsG, clssG, O.toD, xAnd, xOr, xNot, xIf, xIfO, xT, xTO, xNotT, xAndT, xOrT, xIfT, xYes, xOp, xUn, xTup, xLst, xCh, xLc, xDc, iA, itemsD, gN, gT, gsC, gsN, sFor, sAsg, isB, iiG0, lenG, listG, tupG, leG, ltG, geG, gtG, intG, Ps.wp, wipeO, xP, xE, cP, cE, isSc, List.map_cons, List.map_nil, List.cons_append, List.nil_append, List.length_cons, List.length_nil, List.getElem?_cons_zero, List.getElem?_cons_succ, List.replicate, List.set_cons_zero, List.set_cons_succ, Nat.reduceSub, Nat.reduceAdd, if_true, if_false, Bool.false_eq_true, reduceCtorEq, truD, Bool.not_true, Bool.not_false, Option.map_some, at0, at1, at2, eqI, neI, true_and, and_true, implies_true, ne_eq, not_false_eq_true, Nat.reduceEqDiff, Bool.not_true]
      refine w_is_mark gc.w m1 m2 m3 m4 ?_
      simp only [mk, sRet, sRetN, sSeq, sNx, sIf, sSet, sSetO, sEx, xU, xF, xB, xCons, xNil, xV, xC, xMv, st0, opt, looks, look, frz, frzs, isiG, tyG, clsG, clssG, O.toD, xAnd, xOr, xNot, xIf, xIfO, xT, xTO, xNotT, xAndT, xOrT, xIfT, xYes, xOp, xUn, xTup, xLst, xCh, xLc, xDc, iA, itemsD, gN, gT, gsC, gsN, sFor, sAsg, isB, iiG0, lenG, listG, tupG, leG, ltG, geG, gtG, intG, Ps.wp, wipeO, xP, xE, cP, cE, isSc, List.map_cons, List.map_nil, List.cons_append, List.nil_append, List.length_cons, List.length_nil, List.getElem?_cons_zero, List.getElem?_cons_succ, List.replicate, List.set_cons_zero, List.set_cons_succ, Nat.reduceSub, Nat.reduceAdd, if_true, if_false, Bool.false_eq_true, reduceCtorEq, truD, Bool.not_true, Bool.not_false, Option.map_some, at0, at1, at2, eqI, neI, true_and, and_true, implies_true, ne_eq, not_false_eq_true, Nat.reduceEqDiff, Bool.not_true]
      exact hR _ rfl
  simp only [mk, sRet, sRetN, sSeq, sNx, sIf, sSet, sSetO, sEx, xU, xF, xB, xCons, xNil, xV, xC, xMv, st0, opt, looks, look, frz, frzs, isiG, tyG, clsG, clssG, O.toD, xAnd, xOr, xNot, xIf, xIfO, xT, xTO, xNotT, xAndT, xOrT, xIfT, xYes, xOp, xUn, xTup, xLst, xCh, xLc, xDc, iA, itemsD, gN, gT, gsC, gsN, sFor, sAsg, isB, iiG0, lenG, listG, tupG, leG, ltG, geG, gtG, intG, Ps.wp, wipeO, xP, xE, cP, cE, isSc, List.map_cons, List.map_nil, List.cons_append, List.nil_append, List.length_cons, List.length_nil, List.getElem?_cons_zero, List.getElem?_cons_succ, List.replicate, List.set_cons_zero, List.set_cons_succ, Nat.reduceSub, Nat.reduceAdd, if_true, if_false, Bool.false_eq_true, reduceCtorEq, truD, Bool.not_true, Bool.not_false, Option.map_some, at0, at1, at2, eqI, neI, true_and, and_true, implies_true, ne_eq, not_false_eq_true, Nat.reduceEqDiff, fm_const, allG, bls_true, all_true]
  refine h2 _ (seq_go fun N3 h3 => ?_)
  simp only [mk, sRet, sRetN, sSeq, sNx, sIf, sSet, sSetO, sEx, xU, xF, xB, xCons, xNil, xV, xC, xMv, st0, opt, looks, look, frz, frzs, isiG, tyG, clsG, clssG, O.toD, xAnd, xOr, xNot, xIf, xIfO, xT, xTO, xNotT, xAndT, xOrT, xIfT, xYes, xOp, xUn, xTup, xLst, xCh, xLc, xDc, iA, itemsD, gN, gT, gsC, gsN, sFor, sAsg, isB, iiG0, lenG, listG, tupG, leG, ltG, geG, gtG, intG, Ps.wp, wipeO, xP, xE, cP, cE, isSc, List.map_cons, List.map_nil, List.cons_append, List.nil_append, List.length_cons, List.length_nil, List.getElem?_cons_zero, List.getElem?_cons_succ, List.replicate, List.set_cons_zero, List.set_cons_succ, Nat.reduceSub, Nat.reduceAdd, if_true, if_false, Bool.false_eq_true, reduceCtorEq, truD, Bool.not_true, Bool.not_false, Option.map_some, at0, at1, at2, eqI, neI, true_and, and_true, implies_true, ne_eq, not_false_eq_true, Nat.reduceEqDiff, Bool.not_true]
  refine lcW_pure (st0 := ⟨[O.ins x cs.Table [], O.d (D.str t.1), O.d (D.tup (t.2.map argD)), O.un, O.un, O.un, O.un], S, false, false⟩) (fun d => match d with | .str c => some (.str c) | .tup [.str c, _] => some (.str c) | _ => none) _ _ _ rfl ?_ ?_ ?_
  · rw [List.length_map, sizeLine_eq, List.length_nil]; omega
  · intro d hd R1 R0 hR
    obtain ⟨⟨c, o⟩, hx, rfl⟩ := List.mem_map.mp hd
    cases o with
    | none =>
      rw [arg_none] at hR ⊢
      simp only [mk, sRet, sRetN, sSeq, sNx, sIf, sSet, sSetO, sEx, xU, xF, xB, xCons, xNil, xV, xC, xMv, st0, opt, looks, look, frz, frzs, isiG, tyG, clsG, clssG, O.toD, xAnd, xOr, xNot, xIf, xIfO, xT, xTO, xNotT, xAndT, xOrT, xIfT, xYes, xOp, xUn, xTup, xLst, xCh, xLc, xDc, iA, itemsD, gN, gT, gsC, gsN, sFor, sAsg, isB, iiG0, lenG, listG, tupG, leG, ltG, geG, gtG, intG, Ps.wp, wipeO, xP, xE, cP, cE, isSc, List.map_cons, List.map_nil, List.cons_append, List.nil_append, List.length_cons, List.length_nil, List.getElem?_cons_zero, List.getElem?_cons_succ, List.replicate, List.set_cons_zero, List.set_cons_succ, Nat.reduceSub, Nat.reduceAdd, if_true, if_false, Bool.false_eq_true, reduceCtorEq, truD, Bool.not_true, Bool.not_false, Option.map_some, at0, at1, at2, eqI, neI, true_and, and_true, implies_true, ne_eq, not_false_eq_true, Nat.reduceEqDiff, kit_ss]
      exact hR _ rfl
    | some ms =>
      rw [arg_some] at hR ⊢
      simp only [mk, sRet, sRetN, sSeq, sNx, sIf, sSet, sSetO, sEx, xU, xF, xB, xCons, xNil, xV, xC, xMv, st0, opt, looks, look, frz, frzs, isiG, tyG, clsG, clssG, O.toD, xAnd, xOr, xNot, xIf, xIfO, xT, xTO, xNotT, xAndT, xOrT, xIfT, xYes, xOp, xUn, xTup, xLst, xCh, xLc, xDc, iA, itemsD, gN, gT, gsC, gsN, sFor, sAsg, isB, iiG0, lenG, listG, tupG, leG, ltG, geG, gtG, intG, Ps.wp, wipeO, xP, xE, cP, cE, isSc, List.map_cons, List.map_nil, List.cons_append, List.nil_append, List.length_cons, List.length_nil, List.getElem?_cons_zero, List.getElem?_cons_succ, List.replicate, List.set_cons_zero, List.set_cons_succ, Nat.reduceSub, Nat.reduceAdd, if_true, if_false, Bool.false_eq_true, reduceCtorEq, truD, Bool.not_true, Bool.not_false, Option.map_some, at0, at1, at2, eqI, neI, true_and, and_true, implies_true, ne_eq, not_false_eq_true, Nat.reduceEqDiff, kit_tS, ixD]
      exact hR _ rfl
  have e3 : List.filterMap (fun d => match d with | D.str c => some (D.str c) | .tup [.str c, _] => some (.str c) | _ => none) (t.2.map argD) = (t.2.map (·.1)).map D.str := by
    rw [List.filterMap_map, List.map_map]
    refine fm_all fun c _ => ?_
    obtain ⟨c, o⟩ := c
    cases o <;> rfl
  rw [e3]
  simp only [mk, sRet, sRetN, sSeq, sNx, sIf, sSet, sSetO, sEx, xU, xF, xB, xCons, xNil, xV, xC, xMv, st0, opt, looks, look, frz, frzs, isiG, tyG, clsG, clssG, O.toD, xAnd, xOr, xNot, xIf, xIfO, xT, xTO, xNotT, xAndT, xOrT, xIfT, xYes, xOp, xUn, xTup, xLst, xCh, xLc, xDc, iA, itemsD, gN, gT, gsC, gsN, sFor, sAsg, isB, iiG0, lenG, listG, tupG, leG, ltG, geG, gtG, intG, Ps.wp, wipeO, xP, xE, cP, cE, isSc, List.map_cons, List.map_nil, List.cons_append, List.nil_append, List.length_cons, List.length_nil, List.getElem?_cons_zero, List.getElem?_cons_succ, List.replicate, List.set_cons_zero, List.set_cons_succ, Nat.reduceSub, Nat.reduceAdd, if_true, if_false, Bool.false_eq_true, reduceCtorEq, truD, Bool.not_true, Bool.not_false, Option.map_some, at0, at1, at2, eqI, neI, true_and, and_true, implies_true, ne_eq, not_false_eq_true, Nat.reduceEqDiff, Bool.not_true]
  refine h3 _ (seq_go fun N4 h4 => ?_)
  simp only [mk, sRet, sRetN, sSeq, sNx, sIf, sSet, sSetO, sEx, xU, xF, xB, xCons, xNil, xV, xC, xMv, st0, opt, looks, look, frz, frzs, isiG, tyG, clsG, clssG, O.toD, xAnd, xOr, xNot, xIf, xIfO, xT, xTO, xNotT, xAndT, xOrT, xIfT, xYes, xOp, xUn, xTup, xLst, xCh, xLc, xDc, iA, itemsD, gN, gT, gsC, gsN, sFor, sAsg, isB, iiG0, lenG, listG, tupG, leG, ltG, geG, gtG, intG, Ps.wp, wipeO, xP, xE, cP, cE, isSc, List.map_cons, List.map_nil, List.cons_append, List.nil_append, List.length_cons, List.length_nil, List.getElem?_cons_zero, List.getElem?_cons_succ, List.replicate, List.set_cons_zero, List.set_cons_succ, Nat.reduceSub, Nat.reduceAdd, if_true, if_false, Bool.false_eq_true, reduceCtorEq, truD, Bool.not_true, Bool.not_false, Option.map_some, at0, at1, at2, eqI, neI, true_and, and_true, implies_true, ne_eq, not_false_eq_true, Nat.reduceEqDiff, Bool.not_true]
  refine w_are_different (fun c hc => ?_) g.nd (by rw [List.length_map]; omega) ?_
  · obtain ⟨c', h', rfl⟩ := List.mem_map.mp hc
    exact word_ok (g.c _ h').w
  simp only [mk, sRet, sRetN, sSeq, sNx, sIf, sSet, sSetO, sEx, xU, xF, xB, xCons, xNil, xV, xC, xMv, st0, opt, looks, look, frz, frzs, isiG, tyG, clsG, clssG, O.toD, xAnd, xOr, xNot, xIf, xIfO, xT, xTO, xNotT, xAndT, xOrT, xIfT, xYes, xOp, xUn, xTup, xLst, xCh, xLc, xDc, iA, itemsD, gN, gT, gsC, gsN, sFor, sAsg, isB, iiG0, lenG, listG, tupG, leG, ltG, geG, gtG, intG, Ps.wp, wipeO, xP, xE, cP, cE, isSc, List.map_cons, List.map_nil, List.cons_append, List.nil_append, List.length_cons, List.length_nil, List.getElem?_cons_zero, List.getElem?_cons_succ, List.replicate, List.set_cons_zero, List.set_cons_succ, Nat.reduceSub, Nat.reduceAdd, if_true, if_false, Bool.false_eq_true, reduceCtorEq, truD, Bool.not_true, Bool.not_false, Option.map_some, at0, at1, at2, eqI, neI, true_and, and_true, implies_true, ne_eq, not_false_eq_true, Nat.reduceEqDiff, Bool.not_true]
  refine h4 _ (seq_go fun N5 h5 => ?_)
  simp only [mk, sRet, sRetN, sSeq, sNx, sIf, sSet, sSetO, sEx, xU, xF, xB, xCons, xNil, xV, xC, xMv, st0, opt, looks, look, frz, frzs, isiG, tyG, clsG, clssG, O.toD, xAnd, xOr, xNot, xIf, xIfO, xT, xTO, xNotT, xAndT, xOrT, xIfT, xYes, xOp, xUn, xTup, xLst, xCh, xLc, xDc, iA, itemsD, gN, gT, gsC, gsN, sFor, sAsg, isB, iiG0, lenG, listG, tupG, leG, ltG, geG, gtG, intG, Ps.wp, wipeO, xP, xE, cP, cE, isSc, List.map_cons, List.map_nil, List.cons_append, List.nil_append, List.length_cons, List.length_nil, List.getElem?_cons_zero, List.getElem?_cons_succ, List.replicate, List.set_cons_zero, List.set_cons_succ, Nat.reduceSub, Nat.reduceAdd, if_true, if_false, Bool.false_eq_true, reduceCtorEq, truD, Bool.not_true, Bool.not_false, Option.map_some, at0, at1, at2, eqI, neI, true_and, and_true, implies_true, ne_eq, not_false_eq_true, Nat.reduceEqDiff, sFldI, putFD, nf01, nf02, nf12, nf03, nf13, nf23]
  refine ⟨fk.f_Table_own_name, by decide, h5 _ (seq_go fun N6 h6 => ?_)⟩
  simp only [mk, sRet, sRetN, sSeq, sNx, sIf, sSet, sSetO, sEx, xU, xF, xB, xCons, xNil, xV, xC, xMv, st0, opt, looks, look, frz, frzs, isiG, tyG, clsG, clssG, O.toD, xAnd, xOr, xNot, xIf, xIfO, xT, xTO, xNotT, xAndT, xOrT, xIfT, xYes, xOp, xUn, xTup, xLst, xCh, xLc, xDc, iA, itemsD, gN, gT, gsC, gsN, sFor, sAsg, isB, iiG0, lenG, listG, tupG, leG, ltG, geG, gtG, intG, Ps.wp, wipeO, xP, xE, cP, cE, isSc, List.map_cons, List.map_nil, List.cons_append, List.nil_append, List.length_cons, List.length_nil, List.getElem?_cons_zero, List.getElem?_cons_succ, List.replicate, List.set_cons_zero, List.set_cons_succ, Nat.reduceSub, Nat.reduceAdd, if_true, if_false, Bool.false_eq_true, reduceCtorEq, truD, Bool.not_true, Bool.not_false, Option.map_some, at0, at1, at2, eqI, neI, true_and, and_true, implies_true, ne_eq, not_false_eq_true, Nat.reduceEqDiff, sFldI, putFD, nf01, nf02, nf12, nf03, nf13, nf23]
  refine ⟨fk.f_Table_own_columns, by decide, h6 _ (seq_go fun N7 h7 => ?_)⟩
  simp only [mk, sRet, sRetN, sSeq, sNx, sIf, sSet, sSetO, sEx, xU, xF, xB, xCons, xNil, xV, xC, xMv, st0, opt, looks, look, frz, frzs, isiG, tyG, clsG, clssG, O.toD, xAnd, xOr, xNot, xIf, xIfO, xT, xTO, xNotT, xAndT, xOrT, xIfT, xYes, xOp, xUn, xTup, xLst, xCh, xLc, xDc, iA, itemsD, gN, gT, gsC, gsN, sFor, sAsg, isB, iiG0, lenG, listG, tupG, leG, ltG, geG, gtG, intG, Ps.wp, wipeO, xP, xE, cP, cE, isSc, List.map_cons, List.map_nil, List.cons_append, List.nil_append, List.length_cons, List.length_nil, List.getElem?_cons_zero, List.getElem?_cons_succ, List.replicate, List.set_cons_zero, List.set_cons_succ, Nat.reduceSub, Nat.reduceAdd, if_true, if_false, Bool.false_eq_true, reduceCtorEq, truD, Bool.not_true, Bool.not_false, Option.map_some, at0, at1, at2, eqI, neI, true_and, and_true, implies_true, ne_eq, not_false_eq_true, Nat.reduceEqDiff, sFldI, noKeysO]
  refine dcW_K (st0 := ⟨[O.ins x cs.Table [("own_name", D.str t.1), ("own_columns", D.tup ((t.2.map (·.1)).map D.str))], O.d (D.str t.1), O.d (D.tup (t.2.map argD)), O.d (D.lst ((t.2.map (·.1)).map D.str)), O.un, O.un, O.un], S, false, false⟩) (fun d => match d with | .tup [.str c, .lst ms] => some (Sum.inr c, .tup ms) | _ => none) _ _ _ rfl ?_ ?_ ?_ ?_
  · rw [List.length_map, sizeLine_eq, List.length_nil]; omega
  · rw [List.nil_append, marks_fm]
    exact marks_keys g.nd
  · intro d hd R1 R0 hR
    obtain ⟨⟨c, o⟩, hx, rfl⟩ := List.mem_map.mp hd
    cases o with
    | none =>
      rw [arg_none] at hR ⊢
      simp only [mk, sRet, sRetN, sSeq, sNx, sIf, sSet, sSetO, sEx, xU, xF, xB, xCons, xNil, xV, xC, xMv, st0, opt, looks, look, frz, frzs, isiG, tyG, clsG, clssG, O.toD, xAnd, xOr, xNot, xIf, xIfO, xT, xTO, xNotT, xAndT, xOrT, xIfT, xYes, xOp, xUn, xTup, xLst, xCh, xLc, xDc, iA, itemsD, gN, gT, gsC, gsN, sFor, sAsg, isB, iiG0, lenG, listG, tupG, leG, ltG, geG, gtG, intG, Ps.wp, wipeO, xP, xE, cP, cE, isSc, List.map_cons, List.map_nil, List.cons_append, List.nil_append, List.length_cons, List.length_nil, List.getElem?_cons_zero, List.getElem?_cons_succ, List.replicate, List.set_cons_zero, List.set_cons_succ, Nat.reduceSub, Nat.reduceAdd, if_true, if_false, Bool.false_eq_true, reduceCtorEq, truD, Bool.not_true, Bool.not_false, Option.map_some, at0, at1, at2, eqI, neI, true_and, and_true, implies_true, ne_eq, not_false_eq_true, Nat.reduceEqDiff, kit_sT]
      exact hR _ rfl
    | some ms =>
      rw [arg_some] at hR ⊢
      simp only [mk, sRet, sRetN, sSeq, sNx, sIf, sSet, sSetO, sEx, xU, xF, xB, xCons, xNil, xV, xC, xMv, st0, opt, looks, look, frz, frzs, isiG, tyG, clsG, clssG, O.toD, xAnd, xOr, xNot, xIf, xIfO, xT, xTO, xNotT, xAndT, xOrT, xIfT, xYes, xOp, xUn, xTup, xLst, xCh, xLc, xDc, iA, itemsD, gN, gT, gsC, gsN, sFor, sAsg, isB, iiG0, lenG, listG, tupG, leG, ltG, geG, gtG, intG, Ps.wp, wipeO, xP, xE, cP, cE, isSc, List.map_cons, List.map_nil, List.cons_append, List.nil_append, List.length_cons, List.length_nil, List.getElem?_cons_zero, List.getElem?_cons_succ, List.replicate, List.set_cons_zero, List.set_cons_succ, Nat.reduceSub, Nat.reduceAdd, if_true, if_false, Bool.false_eq_true, reduceCtorEq, truD, Bool.not_true, Bool.not_false, Option.map_some, at0, at1, at2, eqI, neI, true_and, and_true, implies_true, ne_eq, not_false_eq_true, Nat.reduceEqDiff, kit_tt, ixD]
      exact hR _ rfl
  rw [List.nil_append, marks_fm]
  simp only [mk, sRet, sRetN, sSeq, sNx, sIf, sSet, sSetO, sEx, xU, xF, xB, xCons, xNil, xV, xC, xMv, st0, opt, looks, look, frz, frzs, isiG, tyG, clsG, clssG, O.toD, xAnd, xOr, xNot, xIf, xIfO, xT, xTO, xNotT, xAndT, xOrT, xIfT, xYes, xOp, xUn, xTup, xLst, xCh, xLc, xDc, iA, itemsD, gN, gT, gsC, gsN, sFor, sAsg, isB, iiG0, lenG, listG, tupG, leG, ltG, geG, gtG, intG, Ps.wp, wipeO, xP, xE, cP, cE, isSc, List.map_cons, List.map_nil, List.cons_append, List.nil_append, List.length_cons, List.length_nil, List.getElem?_cons_zero, List.getElem?_cons_succ, List.replicate, List.set_cons_zero, List.set_cons_succ, Nat.reduceSub, Nat.reduceAdd, if_true, if_false, Bool.false_eq_true, reduceCtorEq, truD, Bool.not_true, Bool.not_false, Option.map_some, at0, at1, at2, eqI, neI, true_and, and_true, implies_true, ne_eq, not_false_eq_true, Nat.reduceEqDiff, putFD, nf01, nf02, nf12, nf03, nf13, nf23]
  refine ⟨fk.f_Table_own_marks, by decide, h7 _ ?_⟩
  simp only [mk, sRet, sRetN, sSeq, sNx, sIf, sSet, sSetO, sEx, xU, xF, xB, xCons, xNil, xV, xC, xMv, st0, opt, looks, look, frz, frzs, isiG, tyG, clsG, clssG, O.toD, xAnd, xOr, xNot, xIf, xIfO, xT, xTO, xNotT, xAndT, xOrT, xIfT, xYes, xOp, xUn, xTup, xLst, xCh, xLc, xDc, iA, itemsD, gN, gT, gsC, gsN, sFor, sAsg, isB, iiG0, lenG, listG, tupG, leG, ltG, geG, gtG, intG, Ps.wp, wipeO, xP, xE, cP, cE, isSc, List.map_cons, List.map_nil, List.cons_append, List.nil_append, List.length_cons, List.length_nil, List.getElem?_cons_zero, List.getElem?_cons_succ, List.replicate, List.set_cons_zero, List.set_cons_succ, Nat.reduceSub, Nat.reduceAdd, if_true, if_false, Bool.false_eq_true, reduceCtorEq, truD, Bool.not_true, Bool.not_false, Option.map_some, at0, at1, at2, eqI, neI, true_and, and_true, implies_true, ne_eq, not_false_eq_true, Nat.reduceEqDiff, sFldI, noKeysO, iEn]
  refine dcW_K (st0 := ⟨[O.ins x cs.Table [("own_name", D.str t.1), ("own_columns", D.tup ((t.2.map (·.1)).map D.str)), ("own_marks", .dK (marksK t.2))], O.d (D.str t.1), O.d (D.tup (t.2.map argD)), O.d (D.lst ((t.2.map (·.1)).map D.str)), O.un, O.un, O.un], S, false, false⟩) (fun d => match d with | .tup [.int k, .str c] => some (Sum.inr c, .int k) | _ => none) _ _ _ rfl ?_ ?_ ?_ ?_
  · rw [enumD_length, List.length_map, List.length_map, sizeLine_eq, List.length_nil]; omega
  · rw [List.nil_append, pos_fm, pos_keys]
    exact nd_inr g.nd
  · intro d hd R1 R0 hR
    obtain ⟨i, hi⟩ := List.getElem?_of_mem hd
    obtain ⟨y, hy, rfl⟩ := enumD_get hi
    rw [List.getElem?_map] at hy
    obtain ⟨c, hc, rfl⟩ := Option.map_eq_some_iff.mp hy
    simp only [mk, sRet, sRetN, sSeq, sNx, sIf, sSet, sSetO, sEx, xU, xF, xB, xCons, xNil, xV, xC, xMv, st0, opt, looks, look, frz, frzs, isiG, tyG, clsG, clssG, O.toD, xAnd, xOr, xNot, xIf, xIfO, xT, xTO, xNotT, xAndT, xOrT, xIfT, xYes, xOp, xUn, xTup, xLst, xCh, xLc, xDc, iA, itemsD, gN, gT, gsC, gsN, sFor, sAsg, isB, iiG0, lenG, listG, tupG, leG, ltG, geG, gtG, intG, Ps.wp, wipeO, xP, xE, cP, cE, isSc, List.map_cons, List.map_nil, List.cons_append, List.nil_append, List.length_cons, List.length_nil, List.getElem?_cons_zero, List.getElem?_cons_succ, List.replicate, List.set_cons_zero, List.set_cons_succ, Nat.reduceSub, Nat.reduceAdd, if_true, if_false, Bool.false_eq_true, reduceCtorEq, truD, Bool.not_true, Bool.not_false, Option.map_some, at0, at1, at2, eqI, neI, true_and, and_true, implies_true, ne_eq, not_false_eq_true, Nat.reduceEqDiff, Bool.not_true]
    exact hR _ rfl
  rw [List.nil_append, pos_fm]
  simp only [mk, sRet, sRetN, sSeq, sNx, sIf, sSet, sSetO, sEx, xU, xF, xB, xCons, xNil, xV, xC, xMv, st0, opt, looks, look, frz, frzs, isiG, tyG, clsG, clssG, O.toD, xAnd, xOr, xNot, xIf, xIfO, xT, xTO, xNotT, xAndT, xOrT, xIfT, xYes, xOp, xUn, xTup, xLst, xCh, xLc, xDc, iA, itemsD, gN, gT, gsC, gsN, sFor, sAsg, isB, iiG0, lenG, listG, tupG, leG, ltG, geG, gtG, intG, Ps.wp, wipeO, xP, xE, cP, cE, isSc, List.map_cons, List.map_nil, List.cons_append, List.nil_append, List.length_cons, List.length_nil, List.getElem?_cons_zero, List.getElem?_cons_succ, List.replicate, List.set_cons_zero, List.set_cons_succ, Nat.reduceSub, Nat.reduceAdd, if_true, if_false, Bool.false_eq_true, reduceCtorEq, truD, Bool.not_true, Bool.not_false, Option.map_some, at0, at1, at2, eqI, neI, true_and, and_true, implies_true, ne_eq, not_false_eq_true, Nat.reduceEqDiff, putFD, endI, nf01, nf02, nf12, nf03, nf13, nf23]
  refine ⟨fk.f_Table_own_positions, by decide, ?_⟩
  have e : (t.2.map (·.1)).map D.str = t.2.map fun c => D.str c.1 := by rw [List.map_map]; rfl
  rw [e]
  exact h
end Q
namespace Q
open PySem L2 PySem.Spec PyProof.Rows
variable {K : PySem.W.Frag} {cs : Cs} {E : EF} {S : List Cell} {Q : O → List Cell → Prop} {J : O → Prop} {t : Tab} {sc : List Tab}
theorem fld_name (fk : Fk K cs) : fldG K "own_name" S (tabD cs t) J = J (.d (.str t.1)) := propext ⟨fun h => h.2, fun h => ⟨fk.f_Table_own_name, h⟩⟩
theorem fld_columns (fk : Fk K cs) : fldG K "own_columns" S (tabD cs t) J = J (.d (.tup (t.2.map fun c => D.str c.1))) := propext ⟨fun h => h.2, fun h => ⟨fk.f_Table_own_columns, h⟩⟩
theorem fld_marks (fk : Fk K cs) : fldG K "own_marks" S (tabD cs t) J = J (.d (.dK (marksK t.2))) := propext ⟨fun h => h.2, fun h => ⟨fk.f_Table_own_marks, h⟩⟩
theorem fld_positions (fk : Fk K cs) : fldG K "own_positions" S (tabD cs t) J = J (.d (.dK (posK 0 t.2))) := propext ⟨fun h => h.2, fun h => ⟨fk.f_Table_own_positions, h⟩⟩
theorem fld_tables (fk : Fk K cs) : fldG K "own_tables" S (schD cs sc) J = J (.d (.dK (tabsK cs sc))) := propext ⟨fun h => h.2, fun h => ⟨fk.f_Schema_own_tables, h⟩⟩
theorem cls_tab {st : Ps} {m : Str} (h : (tabF t).lookup m = none) : clsOf st (.v (tabD cs t)) m = some cs.Table := by
  show (if ((tabF t).lookup m).isNone then some cs.Table else none) = _
  rw [h]
  rfl
theorem cls_sch {st : Ps} {m : Str} (h : (m == "own_tables") = false) : clsOf st (.v (schD cs sc)) m = some cs.Schema := by
  show (if (List.lookup m [(("own_tables" : Str), D.dK (tabsK cs sc))]).isNone then some cs.Schema else none) = _
  rw [List.lookup_cons, h]
  rfl
theorem isi_tab (fk : Fk K cs) : isiG K [tabD cs t, .cls cs.Table] J = J (.d (.bl true)) := propext ⟨fun h => by
    have h2 := h.2
    simp only [clsG, opt, fk.k0] at h2
    exact h2, fun h => ⟨fk.i_Table, by simp only [clsG, opt, fk.k0]; exact h⟩⟩
theorem isi_sch (fk : Fk K cs) : isiG K [schD cs sc, .cls cs.Filled] J = J (.d (.bl false)) := propext ⟨fun h => by
    have h2 := h.2
    simp only [clsG, opt, fk.k1] at h2
    exact h2, fun h => ⟨fk.i_Schema, by simp only [clsG, opt, fk.k1]; exact h⟩⟩
theorem w_table_name (fk : Fk K cs) (h : Q (.d (.str t.1)) S) : m_Table_name K cs [tabD cs t] E S Q := by
  unfold m_Table_name b_Table_name
  simp only [mk, sRet, sRetN, sSeq, sNx, sIf, sSet, sSetO, sEx, xU, xF, xB, xCons, xNil, xV, xC, xMv, st0, opt, looks, look, frz, frzs, isiG, tyG, clsG, clssG, O.toD, xAnd, xOr, xNot, xIf, xIfO, xT, xTO, xNotT, xAndT, xOrT, xIfT, xYes, xOp, xUn, xTup, xLst, xCh, xLc, xDc, iA, itemsD, gN, gT, gsC, gsN, sFor, sAsg, isB, iiG0, lenG, listG, tupG, leG, ltG, geG, gtG, intG, Ps.wp, wipeO, xP, xE, cP, cE, isSc, List.map_cons, List.map_nil, List.cons_append, List.nil_append, List.length_cons, List.length_nil, List.getElem?_cons_zero, List.getElem?_cons_succ, List.replicate, List.set_cons_zero, List.set_cons_succ, Nat.reduceSub, Nat.reduceAdd, if_true, if_false, Bool.false_eq_true, reduceCtorEq, truD, Bool.not_true, Bool.not_false, Option.map_some, at0, at1, at2, eqI, neI, true_and, and_true, implies_true, ne_eq, not_false_eq_true, Nat.reduceEqDiff, fld_name fk]
  exact h
def rowOk : List Col → List Str → Prop
  | [], [] => True
  | c :: cs, x :: xs => (wordB x = true ∧ ∀ ms, c.2 = some ms → x ∈ ms) ∧ rowOk cs xs
  | _, _ => False
theorem rowOk_len : ∀ {cols : List Col} {r : List Str}, rowOk cols r → r.length = cols.length
  | [], [], _ => rfl
  | c :: cs, x :: xs, h => by rw [List.length_cons, List.length_cons, rowOk_len h.2]
  | [], _ :: _, h => h.elim
  | _ :: _, [], h => h.elim
def rowD (r : List Str) : D := .tup (r.map D.str)
theorem inG_dK {kvs : List (Key × D)} {x : Str} {n : Bool} : inG n (.str x) (.dK kvs) = some (.d (.bl (if n then !(valD kvs (Sum.inr x : Key)).isSome else (valD kvs (Sum.inr x : Key)).isSome))) := rfl
theorem dgG_dK {kvs : List (Key × D)} {x : Str} {d : D} (h : valD kvs (Sum.inr x : Key) = some d) : dgG (.dK kvs) (.str x) = some (.d d) := by
  unfold dgG
  show (match (some (valD kvs (Sum.inr x : Key)) : Option (Option D)) with | some (some d) => some (O.d d) | _ => none) = _
  rw [h]
theorem all_isstr : ∀ ns : List Str, ((ns.map PyData.str).all fun p => match p with | .str _ => true | _ => false) = true
  | [] => rfl
  | n :: ns => by rw [List.map_cons, List.all_cons, all_isstr ns]; rfl
theorem inG_tup {x : Str} {ms : List Str} (n : Bool) : inG n (.str x) (.tup (ms.map D.str)) = some (.d (.bl (if n then !decide (x ∈ ms) else decide (x ∈ ms)))) := by
  show (match toPs (ms.map D.str) with | some ps => if ps.all (fun p => match p with | .str _ => true | _ => false) then some (O.d (.bl (if n then !(ps.any fun z => PyData.eqv z (.str x)) else ps.any fun z => PyData.eqv z (.str x)))) else none | none => none) = _
  rw [toPs_strs]
  simp only [all_isstr, anyEq_strs, if_true]
theorem inG_lst {x : Str} {ms : List Str} (n : Bool) (hn : PyData.strOk x = true) (hs : ∀ x ∈ ms, PyData.strOk x = true) : inG n (.str x) (.lst (ms.map D.str)) = some (.d (.bl (if n then !decide (x ∈ ms) else decide (x ∈ ms)))) := inD_strs n hn hs
theorem w_is_row (fk : Fk K cs) (g : GoodT t) {r : List Str} (hr : rowOk t.2 r) (h : Q (.d (.bl true)) S) : m_Table_is_row K cs [tabD cs t, rowD r] E S Q := by
  unfold m_Table_is_row b_Table_is_row rowD
  simp only [mk, st0, List.map_cons, List.map_nil, List.cons_append, List.nil_append, List.length_cons, List.length_nil, Nat.reduceSub, Nat.reduceAdd, List.replicate]
  refine seq_go fun N1 h1 => ?_
  have e1 : (!decide (((r.length : Nat) : Int) = ((t.2.length : Nat) : Int))) = false := by rw [rowOk_len hr, decide_eq_true rfl]; rfl
  simp only [mk, sRet, sRetN, sSeq, sNx, sIf, sSet, sSetO, sEx, xU, xF, xB, xCons, xNil, xV, xC, xMv, st0, opt, looks, look, frz, frzs, isiG, tyG, clsG, clssG, O.toD, xAnd, xOr, xNot, xIf, xIfO, xT, xTO, xNotT, xAndT, xOrT, xIfT, xYes, xOp, xUn, xTup, xLst, xCh, xLc, xDc, iA, itemsD, gN, gT, gsC, gsN, sFor, sAsg, isB, iiG0, lenG, listG, tupG, leG, ltG, geG, gtG, intG, Ps.wp, wipeO, xP, xE, cP, cE, isSc, List.map_cons, List.map_nil, List.cons_append, List.nil_append, List.length_cons, List.length_nil, List.getElem?_cons_zero, List.getElem?_cons_succ, List.replicate, List.set_cons_zero, List.set_cons_succ, Nat.reduceSub, Nat.reduceAdd, if_true, if_false, Bool.false_eq_true, reduceCtorEq, truD, Bool.not_true, Bool.not_false, Option.map_some, at0, at1, at2, eqI, neI, true_and, and_true, implies_true, ne_eq, not_false_eq_true, Nat.reduceEqDiff, kit_tt, fld_columns fk, List.length_map, e1]
  refine h1 _ (seq_go fun N2 h2 => ?_)
  simp only [mk, sRet, sRetN, sSeq, sNx, sIf, sSet, sSetO, sEx, xU, xF, xB, xCons, xNil, xV, xC, xMv, st0, opt, looks, look, frz, frzs, isiG, tyG, clsG, clssG, O.toD, xAnd, xOr, xNot, xIf, xIfO, xT, xTO, xNotT, xAndT, xOrT, xIfT, xYes, xOp, xUn, xTup, xLst, xCh, xLc, xDc, iA, itemsD, gN, gT, gsC, gsN, sFor, sAsg, isB, iiG0, lenG, listG, tupG, leG, ltG, geG, gtG, intG, Ps.wp, wipeO, xP, xE, cP, cE, isSc, List.map_cons, List.map_nil, List.cons_append, List.nil_append, List.length_cons, List.length_nil, List.getElem?_cons_zero, List.getElem?_cons_succ, List.replicate, List.set_cons_zero, List.set_cons_succ, Nat.reduceSub, Nat.reduceAdd, if_true, if_false, Bool.false_eq_true, reduceCtorEq, truD, Bool.not_true, Bool.not_false, Option.map_some, at0, at1, at2, eqI, neI, true_and, and_true, implies_true, ne_eq, not_false_eq_true, Nat.reduceEqDiff, iZp, fld_columns fk]
  refine forW_by (fun ds st => ∃ cols r' o2 o3, rowOk cols r' ∧ (∀ c ∈ cols, c ∈ t.2) ∧ ds = zipD (cols.map fun c => D.str c.1) (r'.map D.str) ∧ st = ⟨[O.d (tabD cs t), O.d (.tup (r.map D.str)), o2, o3], S, false, false⟩) ?_ ?_ _ _ ⟨t.2, r, _, _, hr, fun _ z => z, rfl, rfl⟩
  · rintro st ⟨cols, r', o2, o3, h5, h6, h7, rfl⟩
    refine h2 _ ?_
    simp only [mk, sRet, sRetN, sSeq, sNx, sIf, sSet, sSetO, sEx, xU, xF, xB, xCons, xNil, xV, xC, xMv, st0, opt, looks, look, frz, frzs, isiG, tyG, clsG, clssG, O.toD, xAnd, xOr, xNot, xIf, xIfO, xT, xTO, xNotT, xAndT, xOrT, xIfT, xYes, xOp, xUn, xTup, xLst, xCh, xLc, xDc, iA, itemsD, gN, gT, gsC, gsN, sFor, sAsg, isB, iiG0, lenG, listG, tupG, leG, ltG, geG, gtG, intG, Ps.wp, wipeO, xP, xE, cP, cE, isSc, List.map_cons, List.map_nil, List.cons_append, List.nil_append, List.length_cons, List.length_nil, List.getElem?_cons_zero, List.getElem?_cons_succ, List.replicate, List.set_cons_zero, List.set_cons_succ, Nat.reduceSub, Nat.reduceAdd, if_true, if_false, Bool.false_eq_true, reduceCtorEq, truD, Bool.not_true, Bool.not_false, Option.map_some, at0, at1, at2, eqI, neI, true_and, and_true, implies_true, ne_eq, not_false_eq_true, Nat.reduceEqDiff, Bool.not_true]
    exact h
  · rintro d ds st ⟨cols, r', o2, o3, h5, h6, h7, rfl⟩ N hN
    match cols, r', h5, h7 with
    | [], [], _, h7 => cases h7
    | c :: cols, x :: r', h5, h7 =>
      rw [List.map_cons, List.map_cons, zipD] at h7
      cases h7
      simp only [mk, sRet, sRetN, sSeq, sNx, sIf, sSet, sSetO, sEx, xU, xF, xB, xCons, xNil, xV, xC, xMv, st0, opt, looks, look, frz, frzs, isiG, tyG, clsG, clssG, O.toD, xAnd, xOr, xNot, xIf, xIfO, xT, xTO, xNotT, xAndT, xOrT, xIfT, xYes, xOp, xUn, xTup, xLst, xCh, xLc, xDc, iA, itemsD, gN, gT, gsC, gsN, sFor, sAsg, isB, iiG0, lenG, listG, tupG, leG, ltG, geG, gtG, intG, Ps.wp, wipeO, xP, xE, cP, cE, isSc, List.map_cons, List.map_nil, List.cons_append, List.nil_append, List.length_cons, List.length_nil, List.getElem?_cons_zero, List.getElem?_cons_succ, List.replicate, List.set_cons_zero, List.set_cons_succ, Nat.reduceSub, Nat.reduceAdd, if_true, if_false, Bool.false_eq_true, reduceCtorEq, truD, Bool.not_true, Bool.not_false, Option.map_some, at0, at1, at2, eqI, neI, true_and, and_true, implies_true, ne_eq, not_false_eq_true, Nat.reduceEqDiff, Bool.not_true]
      refine w_is_word h5.1.1 ?_
      have hc := h6 c List.mem_cons_self
      have mv := marks_val g.nd hc
      cases e : c.2 with
      | none =>
        rw [e] at mv
        have ei : (valD (marksK t.2) (Sum.inr c.1 : Key)).isSome = false := by rw [mv]; rfl
        simp only [mk, sRet, sRetN, sSeq, sNx, sIf, sSet, sSetO, sEx, xU, xF, xB, xCons, xNil, xV, xC, xMv, st0, opt, looks, look, frz, frzs, isiG, tyG, clsG, clssG, O.toD, xAnd, xOr, xNot, xIf, xIfO, xT, xTO, xNotT, xAndT, xOrT, xIfT, xYes, xOp, xUn, xTup, xLst, xCh, xLc, xDc, iA, itemsD, gN, gT, gsC, gsN, sFor, sAsg, isB, iiG0, lenG, listG, tupG, leG, ltG, geG, gtG, intG, Ps.wp, wipeO, xP, xE, cP, cE, isSc, List.map_cons, List.map_nil, List.cons_append, List.nil_append, List.length_cons, List.length_nil, List.getElem?_cons_zero, List.getElem?_cons_succ, List.replicate, List.set_cons_zero, List.set_cons_succ, Nat.reduceSub, Nat.reduceAdd, if_true, if_false, Bool.false_eq_true, reduceCtorEq, truD, Bool.not_true, Bool.not_false, Option.map_some, at0, at1, at2, eqI, neI, true_and, and_true, implies_true, ne_eq, not_false_eq_true, Nat.reduceEqDiff, fld_marks fk, inG_dK, ei]
        exact hN _ ⟨cols, r', _, _, h5.2, fun c' z => h6 c' (List.mem_cons_of_mem _ z), rfl, rfl⟩
      | some ms =>
        rw [e] at mv
        have ei : (valD (marksK t.2) (Sum.inr c.1 : Key)).isSome = true := by rw [mv]; rfl
        have ex : decide (x ∈ ms) = true := decide_eq_true (h5.1.2 ms e)
        simp only [mk, sRet, sRetN, sSeq, sNx, sIf, sSet, sSetO, sEx, xU, xF, xB, xCons, xNil, xV, xC, xMv, st0, opt, looks, look, frz, frzs, isiG, tyG, clsG, clssG, O.toD, xAnd, xOr, xNot, xIf, xIfO, xT, xTO, xNotT, xAndT, xOrT, xIfT, xYes, xOp, xUn, xTup, xLst, xCh, xLc, xDc, iA, itemsD, gN, gT, gsC, gsN, sFor, sAsg, isB, iiG0, lenG, listG, tupG, leG, ltG, geG, gtG, intG, Ps.wp, wipeO, xP, xE, cP, cE, isSc, List.map_cons, List.map_nil, List.cons_append, List.nil_append, List.length_cons, List.length_nil, List.getElem?_cons_zero, List.getElem?_cons_succ, List.replicate, List.set_cons_zero, List.set_cons_succ, Nat.reduceSub, Nat.reduceAdd, if_true, if_false, Bool.false_eq_true, reduceCtorEq, truD, Bool.not_true, Bool.not_false, Option.map_some, at0, at1, at2, eqI, neI, true_and, and_true, implies_true, ne_eq, not_false_eq_true, Nat.reduceEqDiff, fld_marks fk, inG_dK, ei, dgG_dK mv, inG_tup, ex]
        exact hN _ ⟨cols, r', _, _, h5.2, fun c' z => h6 c' (List.mem_cons_of_mem _ z), rfl, rfl⟩
end Q
namespace Q
open PySem L2 PySem.Spec PyProof.Rows
variable {K : PySem.W.Frag} {cs : Cs} {E : EF} {S : List Cell} {Q : O → List Cell → Prop} {J : O → Prop} {t : Tab} {sc : List Tab}
variable {QI : List (Str × D) → List Cell → Prop} {x : Addr}
theorem fm_names (cs : Cs) (sc : List Tab) : True := trivial
theorem w_schema_init (fk : Fk K cs) (g : GoodS sc) (h : QI [("own_tables", .dK (tabsK cs sc))] S) : i_Schema___init__ K cs x [] (sc.map (tabD cs)) E S QI := by
  have l1 := g.l1
  have l4 := g.l4
  unfold i_Schema___init__
  refine ⟨Nat.zero_le _, by show (sc.map (tabD cs)).length ≤ sizeLine; rw [List.length_map]; exact sizeLine_le (by omega), ?_⟩
  show mkI cs.Schema false 3 (b_Schema___init__ K cs) x [] [.tup (sc.map (tabD cs))] E S QI
  unfold b_Schema___init__
  simp only [mk, st0, List.map_cons, List.map_nil, List.cons_append, List.nil_append, List.length_cons, List.length_nil, Nat.reduceSub, Nat.reduceAdd, List.replicate, mkI]
  refine seq_go fun N1 h1 => ?_
  have g1 : decide ((1 : Int) ≤ ((sc.length : Nat) : Int)) = true := decide_eq_true (by omega)
  have g2 : decide (((sc.length : Nat) : Int) ≤ 4) = true := decide_eq_true (by omega)
  simp only [mk, sRet, sRetN, sSeq, sNx, sIf, sSet, sSetO, sEx, xU, xF, xB, xCons, xNil, xV, xC, xMv, st0, opt, looks, look, frz, frzs, isiG, tyG, clsG, clssG, O.toD, xAnd, xOr, xNot, xIf, xIfO, xT, xTO, xNotT, xAndT, xOrT, xIfT, xYes, xOp, xUn, xTup, xLst, xCh, xLc, xDc, iA, itemsD, gN, gT, gsC, gsN, sFor, sAsg, isB, iiG0, lenG, listG, tupG, leG, ltG, geG, gtG, intG, Ps.wp, wipeO, xP, xE, cP, cE, isSc, List.map_cons, List.map_nil, List.cons_append, List.nil_append, List.length_cons, List.length_nil, List.getElem?_cons_zero, List.getElem?_cons_succ, List.replicate, List.set_cons_zero, List.set_cons_succ, Nat.reduceSub, Nat.reduceAdd, if_true, if_false, Bool.false_eq_true, reduceCtorEq, truD, Bool.not_true, Bool.not_false, Option.map_some, at0, at1, at2, eqI, neI, true_and, and_true, implies_true, ne_eq, not_false_eq_true, Nat.reduceEqDiff, List.length_map, g1, g2]
  refine lcW_pure (st0 := ⟨[O.ins x cs.Schema [], O.d (D.tup (sc.map (tabD cs))), O.un], S, false, false⟩) (fun d => some (.bl true)) _ _ _ rfl ?_ ?_ ?_
  · rw [List.length_map, sizeLine_eq, List.length_nil]; omega
  · intro d hd R1 R0 hR
    obtain ⟨t, ht, rfl⟩ := List.mem_map.mp hd
    simp only [gN, gT, gsC, gsN, xYes, if_true, true_and, and_true, List.length_cons, List.length_nil, Nat.reduceAdd, Nat.zero_add, List.set_cons_zero, List.set_cons_succ, Ps.wp, wipeO]
    simp only [xF, xB, xCons, xNil, xV, xC, looks, look, opt, List.getElem?_cons_zero, List.getElem?_cons_succ, isi_tab fk, O.toD, frz]
    exact hR _ rfl
  simp only [mk, sRet, sRetN, sSeq, sNx, sIf, sSet, sSetO, sEx, xU, xF, xB, xCons, xNil, xV, xC, xMv, st0, opt, looks, look, frz, frzs, isiG, tyG, clsG, clssG, O.toD, xAnd, xOr, xNot, xIf, xIfO, xT, xTO, xNotT, xAndT, xOrT, xIfT, xYes, xOp, xUn, xTup, xLst, xCh, xLc, xDc, iA, itemsD, gN, gT, gsC, gsN, sFor, sAsg, isB, iiG0, lenG, listG, tupG, leG, ltG, geG, gtG, intG, Ps.wp, wipeO, xP, xE, cP, cE, isSc, List.map_cons, List.map_nil, List.cons_append, List.nil_append, List.length_cons, List.length_nil, List.getElem?_cons_zero, List.getElem?_cons_succ, List.replicate, List.set_cons_zero, List.set_cons_succ, Nat.reduceSub, Nat.reduceAdd, if_true, if_false, Bool.false_eq_true, reduceCtorEq, truD, Bool.not_true, Bool.not_false, Option.map_some, at0, at1, at2, eqI, neI, true_and, and_true, implies_true, ne_eq, not_false_eq_true, Nat.reduceEqDiff, fm_const, allG, bls_true, all_true]
  refine h1 _ (seq_go fun N2 h2 => ?_)
  simp only [mk, sRet, sRetN, sSeq, sNx, sIf, sSet, sSetO, sEx, xU, xF, xB, xCons, xNil, xV, xC, xMv, st0, opt, looks, look, frz, frzs, isiG, tyG, clsG, clssG, O.toD, xAnd, xOr, xNot, xIf, xIfO, xT, xTO, xNotT, xAndT, xOrT, xIfT, xYes, xOp, xUn, xTup, xLst, xCh, xLc, xDc, iA, itemsD, gN, gT, gsC, gsN, sFor, sAsg, isB, iiG0, lenG, listG, tupG, leG, ltG, geG, gtG, intG, Ps.wp, wipeO, xP, xE, cP, cE, isSc, List.map_cons, List.map_nil, List.cons_append, List.nil_append, List.length_cons, List.length_nil, List.getElem?_cons_zero, List.getElem?_cons_succ, List.replicate, List.set_cons_zero, List.set_cons_succ, Nat.reduceSub, Nat.reduceAdd, if_true, if_false, Bool.false_eq_true, reduceCtorEq, truD, Bool.not_true, Bool.not_false, Option.map_some, at0, at1, at2, eqI, neI, true_and, and_true, implies_true, ne_eq, not_false_eq_true, Nat.reduceEqDiff, Bool.not_true]
  refine lcW_pure (st0 := ⟨[O.ins x cs.Schema [], O.d (D.tup (sc.map (tabD cs))), O.un], S, false, false⟩) (fun d => match d with | .ins _ ((_, n) :: _) => some n | _ => none) _ _ _ rfl ?_ ?_ ?_
  · rw [List.length_map, sizeLine_eq, List.length_nil]; omega
  · intro d hd R1 R0 hR
    obtain ⟨t, ht, rfl⟩ := List.mem_map.mp hd
    simp only [gN, gT, gsC, gsN, xYes, if_true, true_and, and_true, List.length_cons, List.length_nil, Nat.reduceAdd, Nat.zero_add, List.set_cons_zero, List.set_cons_succ, Ps.wp, wipeO]
    have e : ∀ st, clsOf st (.v (tabD cs t)) "name" = some cs.Table := fun st => cls_tab rfl
    simp only [xF, xPr, xV, List.getElem?_cons_zero, List.getElem?_cons_succ, e, true_and, cA, cP, looks, look, opt, frzs, frz, List.length_cons, List.length_nil, Nat.zero_add, Bool.false_eq_true, if_false]
    refine w_table_name fk ?_
    simp only [mk, sRet, sRetN, sSeq, sNx, sIf, sSet, sSetO, sEx, xU, xF, xB, xCons, xNil, xV, xC, xMv, st0, opt, looks, look, frz, frzs, isiG, tyG, clsG, clssG, O.toD, xAnd, xOr, xNot, xIf, xIfO, xT, xTO, xNotT, xAndT, xOrT, xIfT, xYes, xOp, xUn, xTup, xLst, xCh, xLc, xDc, iA, itemsD, gN, gT, gsC, gsN, sFor, sAsg, isB, iiG0, lenG, listG, tupG, leG, ltG, geG, gtG, intG, Ps.wp, wipeO, xP, xE, cP, cE, isSc, List.map_cons, List.map_nil, List.cons_append, List.nil_append, List.length_cons, List.length_nil, List.getElem?_cons_zero, List.getElem?_cons_succ, List.replicate, List.set_cons_zero, List.set_cons_succ, Nat.reduceSub, Nat.reduceAdd, if_true, if_false, Bool.false_eq_true, reduceCtorEq, truD, Bool.not_true, Bool.not_false, Option.map_some, at0, at1, at2, eqI, neI, true_and, and_true, implies_true, ne_eq, not_false_eq_true, Nat.reduceEqDiff, Bool.not_true]
    exact hR _ rfl
  have e1 : List.filterMap (fun d => match d with | D.ins _ ((_, n) :: _) => some n | _ => none) (sc.map (tabD cs)) = (sc.map (·.1)).map D.str := by
    rw [List.filterMap_map, List.map_map]
    exact fm_all fun t _ => rfl
  rw [e1]
  simp only [mk, sRet, sRetN, sSeq, sNx, sIf, sSet, sSetO, sEx, xU, xF, xB, xCons, xNil, xV, xC, xMv, st0, opt, looks, look, frz, frzs, isiG, tyG, clsG, clssG, O.toD, xAnd, xOr, xNot, xIf, xIfO, xT, xTO, xNotT, xAndT, xOrT, xIfT, xYes, xOp, xUn, xTup, xLst, xCh, xLc, xDc, iA, itemsD, gN, gT, gsC, gsN, sFor, sAsg, isB, iiG0, lenG, listG, tupG, leG, ltG, geG, gtG, intG, Ps.wp, wipeO, xP, xE, cP, cE, isSc, List.map_cons, List.map_nil, List.cons_append, List.nil_append, List.length_cons, List.length_nil, List.getElem?_cons_zero, List.getElem?_cons_succ, List.replicate, List.set_cons_zero, List.set_cons_succ, Nat.reduceSub, Nat.reduceAdd, if_true, if_false, Bool.false_eq_true, reduceCtorEq, truD, Bool.not_true, Bool.not_false, Option.map_some, at0, at1, at2, eqI, neI, true_and, and_true, implies_true, ne_eq, not_false_eq_true, Nat.reduceEqDiff, Bool.not_true]
  refine w_are_different (fun c hc => ?_) g.nd (by rw [List.length_map]; omega) ?_
  · obtain ⟨t, ht, rfl⟩ := List.mem_map.mp hc
    exact word_ok (g.t _ ht).w
  simp only [mk, sRet, sRetN, sSeq, sNx, sIf, sSet, sSetO, sEx, xU, xF, xB, xCons, xNil, xV, xC, xMv, st0, opt, looks, look, frz, frzs, isiG, tyG, clsG, clssG, O.toD, xAnd, xOr, xNot, xIf, xIfO, xT, xTO, xNotT, xAndT, xOrT, xIfT, xYes, xOp, xUn, xTup, xLst, xCh, xLc, xDc, iA, itemsD, gN, gT, gsC, gsN, sFor, sAsg, isB, iiG0, lenG, listG, tupG, leG, ltG, geG, gtG, intG, Ps.wp, wipeO, xP, xE, cP, cE, isSc, List.map_cons, List.map_nil, List.cons_append, List.nil_append, List.length_cons, List.length_nil, List.getElem?_cons_zero, List.getElem?_cons_succ, List.replicate, List.set_cons_zero, List.set_cons_succ, Nat.reduceSub, Nat.reduceAdd, if_true, if_false, Bool.false_eq_true, reduceCtorEq, truD, Bool.not_true, Bool.not_false, Option.map_some, at0, at1, at2, eqI, neI, true_and, and_true, implies_true, ne_eq, not_false_eq_true, Nat.reduceEqDiff, Bool.not_true]
  refine h2 _ ?_
  simp only [mk, sRet, sRetN, sSeq, sNx, sIf, sSet, sSetO, sEx, xU, xF, xB, xCons, xNil, xV, xC, xMv, st0, opt, looks, look, frz, frzs, isiG, tyG, clsG, clssG, O.toD, xAnd, xOr, xNot, xIf, xIfO, xT, xTO, xNotT, xAndT, xOrT, xIfT, xYes, xOp, xUn, xTup, xLst, xCh, xLc, xDc, iA, itemsD, gN, gT, gsC, gsN, sFor, sAsg, isB, iiG0, lenG, listG, tupG, leG, ltG, geG, gtG, intG, Ps.wp, wipeO, xP, xE, cP, cE, isSc, List.map_cons, List.map_nil, List.cons_append, List.nil_append, List.length_cons, List.length_nil, List.getElem?_cons_zero, List.getElem?_cons_succ, List.replicate, List.set_cons_zero, List.set_cons_succ, Nat.reduceSub, Nat.reduceAdd, if_true, if_false, Bool.false_eq_true, reduceCtorEq, truD, Bool.not_true, Bool.not_false, Option.map_some, at0, at1, at2, eqI, neI, true_and, and_true, implies_true, ne_eq, not_false_eq_true, Nat.reduceEqDiff, sFldI, noKeysO]
  have e2 : List.filterMap (fun d => match d with | D.ins C ((a, .str n) :: r) => some ((Sum.inr n : Key), D.ins C ((a, .str n) :: r)) | _ => none) (sc.map (tabD cs)) = tabsK cs sc := by
    unfold tabsK
    rw [List.filterMap_map]
    exact fm_all fun t _ => rfl
  refine dcW_K (st0 := ⟨[O.ins x cs.Schema [], O.d (D.tup (sc.map (tabD cs))), O.un], S, false, false⟩) (fun d => match d with | D.ins C ((a, .str n) :: r) => some ((Sum.inr n : Key), D.ins C ((a, .str n) :: r)) | _ => none) _ _ _ rfl ?_ ?_ ?_ ?_
  · rw [List.length_map, sizeLine_eq, List.length_nil]; omega
  · rw [List.nil_append, e2, tabs_keys]
    exact nd_inr g.nd
  · intro d hd R1 R0 hR
    obtain ⟨t, ht, rfl⟩ := List.mem_map.mp hd
    simp only [gN, gT, gsC, gsN, xYes, if_true, true_and, and_true, List.length_cons, List.length_nil, Nat.reduceAdd, Nat.zero_add, List.set_cons_zero, List.set_cons_succ, Ps.wp, wipeO]
    have e : ∀ st, clsOf st (.v (tabD cs t)) "name" = some cs.Table := fun st => cls_tab rfl
    simp only [xF, xPr, xV, List.getElem?_cons_zero, List.getElem?_cons_succ, e, true_and, cA, cP, looks, look, opt, frzs, frz, List.length_cons, List.length_nil, Nat.zero_add, Bool.false_eq_true, if_false]
    refine w_table_name fk ?_
    simp only [mk, sRet, sRetN, sSeq, sNx, sIf, sSet, sSetO, sEx, xU, xF, xB, xCons, xNil, xV, xC, xMv, st0, opt, looks, look, frz, frzs, isiG, tyG, clsG, clssG, O.toD, xAnd, xOr, xNot, xIf, xIfO, xT, xTO, xNotT, xAndT, xOrT, xIfT, xYes, xOp, xUn, xTup, xLst, xCh, xLc, xDc, iA, itemsD, gN, gT, gsC, gsN, sFor, sAsg, isB, iiG0, lenG, listG, tupG, leG, ltG, geG, gtG, intG, Ps.wp, wipeO, xP, xE, cP, cE, isSc, List.map_cons, List.map_nil, List.cons_append, List.nil_append, List.length_cons, List.length_nil, List.getElem?_cons_zero, List.getElem?_cons_succ, List.replicate, List.set_cons_zero, List.set_cons_succ, Nat.reduceSub, Nat.reduceAdd, if_true, if_false, Bool.false_eq_true, reduceCtorEq, truD, Bool.not_true, Bool.not_false, Option.map_some, at0, at1, at2, eqI, neI, true_and, and_true, implies_true, ne_eq, not_false_eq_true, Nat.reduceEqDiff, Bool.not_true]
    exact hR _ rfl
  rw [List.nil_append, e2]
  simp only [mk, sRet, sRetN, sSeq, sNx, sIf, sSet, sSetO, sEx, xU, xF, xB, xCons, xNil, xV, xC, xMv, st0, opt, looks, look, frz, frzs, isiG, tyG, clsG, clssG, O.toD, xAnd, xOr, xNot, xIf, xIfO, xT, xTO, xNotT, xAndT, xOrT, xIfT, xYes, xOp, xUn, xTup, xLst, xCh, xLc, xDc, iA, itemsD, gN, gT, gsC, gsN, sFor, sAsg, isB, iiG0, lenG, listG, tupG, leG, ltG, geG, gtG, intG, Ps.wp, wipeO, xP, xE, cP, cE, isSc, List.map_cons, List.map_nil, List.cons_append, List.nil_append, List.length_cons, List.length_nil, List.getElem?_cons_zero, List.getElem?_cons_succ, List.replicate, List.set_cons_zero, List.set_cons_succ, Nat.reduceSub, Nat.reduceAdd, if_true, if_false, Bool.false_eq_true, reduceCtorEq, truD, Bool.not_true, Bool.not_false, Option.map_some, at0, at1, at2, eqI, neI, true_and, and_true, implies_true, ne_eq, not_false_eq_true, Nat.reduceEqDiff, putFD, endI]
  exact ⟨fk.f_Schema_own_tables, by decide, h⟩
theorem w_names (fk : Fk K cs) (h : Q (.d (.tup (sc.map fun t => D.str t.1))) S) : m_Schema_names K cs [schD cs sc] E S Q := by
  unfold m_Schema_names b_Schema_names
  simp only [mk, sRet, sRetN, sSeq, sNx, sIf, sSet, sSetO, sEx, xU, xF, xB, xCons, xNil, xV, xC, xMv, st0, opt, looks, look, frz, frzs, isiG, tyG, clsG, clssG, O.toD, xAnd, xOr, xNot, xIf, xIfO, xT, xTO, xNotT, xAndT, xOrT, xIfT, xYes, xOp, xUn, xTup, xLst, xCh, xLc, xDc, iA, itemsD, gN, gT, gsC, gsN, sFor, sAsg, isB, iiG0, lenG, listG, tupG, leG, ltG, geG, gtG, intG, Ps.wp, wipeO, xP, xE, cP, cE, isSc, List.map_cons, List.map_nil, List.cons_append, List.nil_append, List.length_cons, List.length_nil, List.getElem?_cons_zero, List.getElem?_cons_succ, List.replicate, List.set_cons_zero, List.set_cons_succ, Nat.reduceSub, Nat.reduceAdd, if_true, if_false, Bool.false_eq_true, reduceCtorEq, truD, Bool.not_true, Bool.not_false, Option.map_some, at0, at1, at2, eqI, neI, true_and, and_true, implies_true, ne_eq, not_false_eq_true, Nat.reduceEqDiff, fld_tables fk]
  have e : List.map (fun kv => kD kv.1) (tabsK cs sc) = sc.map fun t => D.str t.1 := by
    unfold tabsK
    rw [List.map_map]
    rfl
  rw [e]
  exact h
theorem w_contains (fk : Fk K cs) {n : Str} (hn : n ∈ sc.map (·.1)) (nd : (sc.map (·.1)).Nodup) (h : Q (.d (.bl true)) S) : m_Schema___contains__ K cs [schD cs sc, .str n] E S Q := by
  obtain ⟨t, ht, rfl⟩ := List.mem_map.mp hn
  have e : (valD (tabsK cs sc) (Sum.inr t.1 : Key)).isSome = true := by rw [tabs_val nd ht]; rfl
  unfold m_Schema___contains__ b_Schema___contains__
  simp only [mk, sRet, sRetN, sSeq, sNx, sIf, sSet, sSetO, sEx, xU, xF, xB, xCons, xNil, xV, xC, xMv, st0, opt, looks, look, frz, frzs, isiG, tyG, clsG, clssG, O.toD, xAnd, xOr, xNot, xIf, xIfO, xT, xTO, xNotT, xAndT, xOrT, xIfT, xYes, xOp, xUn, xTup, xLst, xCh, xLc, xDc, iA, itemsD, gN, gT, gsC, gsN, sFor, sAsg, isB, iiG0, lenG, listG, tupG, leG, ltG, geG, gtG, intG, Ps.wp, wipeO, xP, xE, cP, cE, isSc, List.map_cons, List.map_nil, List.cons_append, List.nil_append, List.length_cons, List.length_nil, List.getElem?_cons_zero, List.getElem?_cons_succ, List.replicate, List.set_cons_zero, List.set_cons_succ, Nat.reduceSub, Nat.reduceAdd, if_true, if_false, Bool.false_eq_true, reduceCtorEq, truD, Bool.not_true, Bool.not_false, Option.map_some, at0, at1, at2, eqI, neI, true_and, and_true, implies_true, ne_eq, not_false_eq_true, Nat.reduceEqDiff, kit_ss, fld_tables fk, inG_dK, e]
  exact h
theorem w_getitem (fk : Fk K cs) (ht : t ∈ sc) (nd : (sc.map (·.1)).Nodup) (h : Q (.d (tabD cs t)) S) : m_Schema___getitem__ K cs [schD cs sc, .str t.1] E S Q := by
  have e : (valD (tabsK cs sc) (Sum.inr t.1 : Key)).isSome = true := by rw [tabs_val nd ht]; rfl
  unfold m_Schema___getitem__ b_Schema___getitem__
  simp only [mk, st0, List.map_cons, List.map_nil, List.cons_append, List.nil_append, List.length_cons, List.length_nil, Nat.reduceSub, Nat.reduceAdd, List.replicate]
  refine seq_go fun N1 h1 => ?_
  simp only [mk, sRet, sRetN, sSeq, sNx, sIf, sSet, sSetO, sEx, xU, xF, xB, xCons, xNil, xV, xC, xMv, st0, opt, looks, look, frz, frzs, isiG, tyG, clsG, clssG, O.toD, xAnd, xOr, xNot, xIf, xIfO, xT, xTO, xNotT, xAndT, xOrT, xIfT, xYes, xOp, xUn, xTup, xLst, xCh, xLc, xDc, iA, itemsD, gN, gT, gsC, gsN, sFor, sAsg, isB, iiG0, lenG, listG, tupG, leG, ltG, geG, gtG, intG, Ps.wp, wipeO, xP, xE, cP, cE, isSc, List.map_cons, List.map_nil, List.cons_append, List.nil_append, List.length_cons, List.length_nil, List.getElem?_cons_zero, List.getElem?_cons_succ, List.replicate, List.set_cons_zero, List.set_cons_succ, Nat.reduceSub, Nat.reduceAdd, if_true, if_false, Bool.false_eq_true, reduceCtorEq, truD, Bool.not_true, Bool.not_false, Option.map_some, at0, at1, at2, eqI, neI, true_and, and_true, implies_true, ne_eq, not_false_eq_true, Nat.reduceEqDiff, kit_ss, fld_tables fk, inG_dK, e]
  refine h1 _ ?_
  simp only [mk, sRet, sRetN, sSeq, sNx, sIf, sSet, sSetO, sEx, xU, xF, xB, xCons, xNil, xV, xC, xMv, st0, opt, looks, look, frz, frzs, isiG, tyG, clsG, clssG, O.toD, xAnd, xOr, xNot, xIf, xIfO, xT, xTO, xNotT, xAndT, xOrT, xIfT, xYes, xOp, xUn, xTup, xLst, xCh, xLc, xDc, iA, itemsD, gN, gT, gsC, gsN, sFor, sAsg, isB, iiG0, lenG, listG, tupG, leG, ltG, geG, gtG, intG, Ps.wp, wipeO, xP, xE, cP, cE, isSc, List.map_cons, List.map_nil, List.cons_append, List.nil_append, List.length_cons, List.length_nil, List.getElem?_cons_zero, List.getElem?_cons_succ, List.replicate, List.set_cons_zero, List.set_cons_succ, Nat.reduceSub, Nat.reduceAdd, if_true, if_false, Bool.false_eq_true, reduceCtorEq, truD, Bool.not_true, Bool.not_false, Option.map_some, at0, at1, at2, eqI, neI, true_and, and_true, implies_true, ne_eq, not_false_eq_true, Nat.reduceEqDiff, fld_tables fk, dgG_dK (tabs_val nd ht)]
  exact h
end Q
namespace Q
open PySem L2 PySem.Spec PyProof.Rows
variable {K : PySem.W.Frag} {cs : Cs} {E : EF} {S : List Cell} {Q : O → List Cell → Prop} {J : O → Prop} {t : Tab} {sc : List Tab}
/-! what rows are let -/
inductive Lt where
  | w (s : Str) | l (ss : List Str) | t (ss : List Str)
def Lt.d : Lt → D
  | .w s => .str s
  | .l ss => .lst (ss.map D.str)
  | .t ss => .tup (ss.map D.str)
def Lt.ws : Lt → List Str
  | .w s => [s]
  | .l ss => ss
  | .t ss => ss
def letsK (ls : List (Str × Lt)) : List (Key × D) := ls.map fun p => ((Sum.inr p.1 : Key), p.2.d)
def ent (cols : List Col) (r : List Str) (c : Str) : Str := r.getD (ixOf cols c) Str.empty
def fitB (cols : List Col) (r : List Str) (ls : List (Str × Lt)) : Bool := ls.all fun p => decide (ent cols r p.1 ∈ p.2.ws)
structure LetsOk (cols : List Col) (ls : List (Str × Lt)) : Prop where
  c : ∀ p ∈ ls, p.1 ∈ cols.map (·.1)
  w : ∀ p ∈ ls, ∀ x ∈ p.2.ws, PyData.strOk x = true
theorem ent_get {cols : List Col} {r : List Str} {c : Str} (hr : r.length = cols.length) (hc : c ∈ cols.map (·.1)) : r[ixOf cols c]? = some (ent cols r c) := by
  have := ix_lt hc
  unfold ent
  rw [List.getD_eq_getElem?_getD, List.getElem?_eq_getElem (by omega)]
  rfl
theorem rowOk_words : ∀ {cols : List Col} {r : List Str}, rowOk cols r → ∀ x ∈ r, wordB x = true
  | [], [], _, x, hx => absurd hx List.not_mem_nil
  | c :: cs, y :: ys, h, x, hx => (List.mem_cons.mp hx).elim (fun e => by rw [e]; exact h.1.1) (rowOk_words h.2 x)
  | [], _ :: _, h, _, _ => h.elim
  | _ :: _, [], h, _, _ => h.elim
theorem neS {a b : Str} (ha : PyData.strOk a = true) (hb : PyData.strOk b = true) : neG (.str a) (.str b) = some (.d (.bl (!decide (a = b)))) := by
  have e : eqP (.str a) (.str b) = some (decide (a = b)) := by
    show (if (SeqAt.shaped (.str a) && SeqAt.shaped (.str b)) = true then some (PyData.eqv (.str a) (.str b)) else none) = _
    rw [shaped_str ha, shaped_str hb, eqv_str]
    rfl
  unfold neG
  rw [e]
theorem eqS {a b : Str} (ha : PyData.strOk a = true) (hb : PyData.strOk b = true) : eqG (.str a) (.str b) = some (.d (.bl (decide (a = b)))) := by
  have e : eqP (.str a) (.str b) = some (decide (a = b)) := by
    show (if (SeqAt.shaped (.str a) && SeqAt.shaped (.str b)) = true then some (PyData.eqv (.str a) (.str b)) else none) = _
    rw [shaped_str ha, shaped_str hb, eqv_str]
    rfl
  unfold eqG
  rw [e]
theorem items_lets (ls : List (Str × Lt)) : itemsOf (letsK ls) = ls.map fun p => D.tup [.str p.1, p.2.d] := by
  unfold itemsOf letsK
  rw [List.map_map]
  rfl
theorem w_fits (fk : Fk K cs) {r : List Str} (hr : rowOk t.2 r) {ls : List (Str × Lt)} (hl : LetsOk t.2 ls) (h : Q (.d (.bl (fitB t.2 r ls))) S) : m_fits K cs [tabD cs t, rowD r, .dK (letsK ls)] E S Q := by
  unfold m_fits b_fits rowD
  simp only [mk, st0, List.map_cons, List.map_nil, List.cons_append, List.nil_append, List.length_cons, List.length_nil, Nat.reduceSub, Nat.reduceAdd, List.replicate]
  refine seq_go fun N1 h1 => ?_
  simp only [mk, sRet, sRetN, sSeq, sNx, sIf, sSet, sSetO, sEx, xU, xF, xB, xCons, xNil, xV, xC, xMv, st0, opt, looks, look, frz, frzs, isiG, tyG, clsG, clssG, O.toD, xAnd, xOr, xNot, xIf, xIfO, xT, xTO, xNotT, xAndT, xOrT, xIfT, xYes, xOp, xUn, xTup, xLst, xCh, xLc, xDc, iA, itemsD, gN, gT, gsC, gsN, sFor, sAsg, isB, iiG0, lenG, listG, tupG, leG, ltG, geG, gtG, intG, Ps.wp, wipeO, xP, xE, cP, cE, isSc, List.map_cons, List.map_nil, List.cons_append, List.nil_append, List.length_cons, List.length_nil, List.getElem?_cons_zero, List.getElem?_cons_succ, List.replicate, List.set_cons_zero, List.set_cons_succ, Nat.reduceSub, Nat.reduceAdd, if_true, if_false, Bool.false_eq_true, reduceCtorEq, truD, Bool.not_true, Bool.not_false, Option.map_some, at0, at1, at2, eqI, neI, true_and, and_true, implies_true, ne_eq, not_false_eq_true, Nat.reduceEqDiff, iIt, dkOf, items_lets]
  refine forW_by (fun ds st => ∃ pre post o3 o4 o5, ls = pre ++ post ∧ (pre.all fun p => decide (ent t.2 r p.1 ∈ p.2.ws)) = true ∧ ds = post.map (fun p => D.tup [.str p.1, p.2.d]) ∧ st = ⟨[O.d (tabD cs t), O.d (.tup (r.map D.str)), .d (.dK (letsK ls)), o3, o4, o5], S, false, false⟩) ?_ ?_ _ _ ⟨[], ls, _, _, _, rfl, rfl, rfl, rfl⟩
  · rintro st ⟨pre, post, o3, o4, o5, e1, e2, e3, rfl⟩
    refine h1 _ ?_
    simp only [mk, sRet, sRetN, sSeq, sNx, sIf, sSet, sSetO, sEx, xU, xF, xB, xCons, xNil, xV, xC, xMv, st0, opt, looks, look, frz, frzs, isiG, tyG, clsG, clssG, O.toD, xAnd, xOr, xNot, xIf, xIfO, xT, xTO, xNotT, xAndT, xOrT, xIfT, xYes, xOp, xUn, xTup, xLst, xCh, xLc, xDc, iA, itemsD, gN, gT, gsC, gsN, sFor, sAsg, isB, iiG0, lenG, listG, tupG, leG, ltG, geG, gtG, intG, Ps.wp, wipeO, xP, xE, cP, cE, isSc, List.map_cons, List.map_nil, List.cons_append, List.nil_append, List.length_cons, List.length_nil, List.getElem?_cons_zero, List.getElem?_cons_succ, List.replicate, List.set_cons_zero, List.set_cons_succ, Nat.reduceSub, Nat.reduceAdd, if_true, if_false, Bool.false_eq_true, reduceCtorEq, truD, Bool.not_true, Bool.not_false, Option.map_some, at0, at1, at2, eqI, neI, true_and, and_true, implies_true, ne_eq, not_false_eq_true, Nat.reduceEqDiff, Bool.not_true]
    cases post with
    | cons _ _ => cases e3
    | nil =>
      rw [List.append_nil] at e1
      subst e1
      unfold fitB at h
      rw [e2] at h
      exact h
  · rintro d ds st ⟨pre, post, o3, o4, o5, e1, e2, e3, rfl⟩ N hN
    cases post with
    | nil => cases e3
    | cons p post =>
      cases e3
      have hp : p ∈ ls := by rw [e1]; exact List.mem_append_right _ List.mem_cons_self
      have hc := hl.c p hp
      have hg := ent_get (rowOk_len hr) hc
      have hw : PyData.strOk (ent t.2 r p.1) = true := word_ok (rowOk_words hr _ (List.mem_of_getElem? hg))
      have e4 : ixD (.tup (r.map D.str)) (.int ((0 + ixOf t.2 p.1 : Nat) : Int)) = some (.d (.str (ent t.2 r p.1))) := by
        show (atI _ _).map O.d = _
        rw [Nat.zero_add, atI_nat (v := D.str (ent t.2 r p.1)) (by rw [List.getElem?_map, hg]; rfl)]
        rfl
      simp only [gN, gT, gsC, gsN, xYes, if_true, true_and, and_true, List.length_cons, List.length_nil, Nat.reduceAdd, Nat.zero_add, List.set_cons_zero, List.set_cons_succ, Ps.wp, wipeO]
      refine seq_go fun N2 h2 => ?_
      simp only [mk, sRet, sRetN, sSeq, sNx, sIf, sSet, sSetO, sEx, xU, xF, xB, xCons, xNil, xV, xC, xMv, st0, opt, looks, look, frz, frzs, isiG, tyG, clsG, clssG, O.toD, xAnd, xOr, xNot, xIf, xIfO, xT, xTO, xNotT, xAndT, xOrT, xIfT, xYes, xOp, xUn, xTup, xLst, xCh, xLc, xDc, iA, itemsD, gN, gT, gsC, gsN, sFor, sAsg, isB, iiG0, lenG, listG, tupG, leG, ltG, geG, gtG, intG, Ps.wp, wipeO, xP, xE, cP, cE, isSc, List.map_cons, List.map_nil, List.cons_append, List.nil_append, List.length_cons, List.length_nil, List.getElem?_cons_zero, List.getElem?_cons_succ, List.replicate, List.set_cons_zero, List.set_cons_succ, Nat.reduceSub, Nat.reduceAdd, if_true, if_false, Bool.false_eq_true, reduceCtorEq, truD, Bool.not_true, Bool.not_false, Option.map_some, at0, at1, at2, eqI, neI, true_and, and_true, implies_true, ne_eq, not_false_eq_true, Nat.reduceEqDiff, fld_positions fk, dgG_dK (pos_val 0 hc), e4]
      refine h2 _ ?_
      have no : decide (ent t.2 r p.1 ∈ p.2.ws) = false → Q (.d (.bl false)) S := fun z => by
        have : fitB t.2 r ls = false := by
          unfold fitB
          rw [e1, List.all_append, List.all_cons, z, Bool.false_and, Bool.and_false]
        rw [this] at h
        exact h
      have yes : decide (ent t.2 r p.1 ∈ p.2.ws) = true → ∀ o3 o4 o5, N ⟨[O.d (tabD cs t), O.d (.tup (r.map D.str)), .d (.dK (letsK ls)), o3, o4, o5], S, false, false⟩ := fun z o3 o4 o5 => by
        refine hN _ ⟨pre ++ [p], post, o3, o4, o5, by rw [e1, List.append_assoc]; rfl, ?_, rfl, rfl⟩
        rw [List.all_append, e2, List.all_cons, z]
        rfl
      cases q : p.2 with
      | w s =>
        rw [q] at no yes
        have hs := hl.w p hp s (by rw [q]; exact List.mem_singleton.mpr rfl)
        have eq : decide (ent t.2 r p.1 ∈ (Lt.w s).ws) = decide (ent t.2 r p.1 = s) := decide_eq_decide.mpr List.mem_singleton
        rw [eq] at no yes
        simp only [mk, sRet, sRetN, sSeq, sNx, sIf, sSet, sSetO, sEx, xU, xF, xB, xCons, xNil, xV, xC, xMv, st0, opt, looks, look, frz, frzs, isiG, tyG, clsG, clssG, O.toD, xAnd, xOr, xNot, xIf, xIfO, xT, xTO, xNotT, xAndT, xOrT, xIfT, xYes, xOp, xUn, xTup, xLst, xCh, xLc, xDc, iA, itemsD, gN, gT, gsC, gsN, sFor, sAsg, isB, iiG0, lenG, listG, tupG, leG, ltG, geG, gtG, intG, Ps.wp, wipeO, xP, xE, cP, cE, isSc, List.map_cons, List.map_nil, List.cons_append, List.nil_append, List.length_cons, List.length_nil, List.getElem?_cons_zero, List.getElem?_cons_succ, List.replicate, List.set_cons_zero, List.set_cons_succ, Nat.reduceSub, Nat.reduceAdd, if_true, if_false, Bool.false_eq_true, reduceCtorEq, truD, Bool.not_true, Bool.not_false, Option.map_some, at0, at1, at2, eqI, neI, true_and, and_true, implies_true, ne_eq, not_false_eq_true, Nat.reduceEqDiff, Lt.d, kit_ss, neS hw hs]
        cases z : decide (ent t.2 r p.1 = s) with
        | true => simp only [mk, sRet, sRetN, sSeq, sNx, sIf, sSet, sSetO, sEx, xU, xF, xB, xCons, xNil, xV, xC, xMv, st0, opt, looks, look, frz, frzs, isiG, tyG, clsG, clssG, O.toD, xAnd, xOr, xNot, xIf, xIfO, xT, xTO, xNotT, xAndT, xOrT, xIfT, xYes, xOp, xUn, xTup, xLst, xCh, xLc, xDc, iA, itemsD, gN, gT, gsC, gsN, sFor, sAsg, isB, iiG0, lenG, listG, tupG, leG, ltG, geG, gtG, intG, Ps.wp, wipeO, xP, xE, cP, cE, isSc, List.map_cons, List.map_nil, List.cons_append, List.nil_append, List.length_cons, List.length_nil, List.getElem?_cons_zero, List.getElem?_cons_succ, List.replicate, List.set_cons_zero, List.set_cons_succ, Nat.reduceSub, Nat.reduceAdd, if_true, if_false, Bool.false_eq_true, reduceCtorEq, truD, Bool.not_true, Bool.not_false, Option.map_some, at0, at1, at2, eqI, neI, true_and, and_true, implies_true, ne_eq, not_false_eq_true, Nat.reduceEqDiff, Bool.not_true]; exact yes z _ _ _
        | false => simp only [mk, sRet, sRetN, sSeq, sNx, sIf, sSet, sSetO, sEx, xU, xF, xB, xCons, xNil, xV, xC, xMv, st0, opt, looks, look, frz, frzs, isiG, tyG, clsG, clssG, O.toD, xAnd, xOr, xNot, xIf, xIfO, xT, xTO, xNotT, xAndT, xOrT, xIfT, xYes, xOp, xUn, xTup, xLst, xCh, xLc, xDc, iA, itemsD, gN, gT, gsC, gsN, sFor, sAsg, isB, iiG0, lenG, listG, tupG, leG, ltG, geG, gtG, intG, Ps.wp, wipeO, xP, xE, cP, cE, isSc, List.map_cons, List.map_nil, List.cons_append, List.nil_append, List.length_cons, List.length_nil, List.getElem?_cons_zero, List.getElem?_cons_succ, List.replicate, List.set_cons_zero, List.set_cons_succ, Nat.reduceSub, Nat.reduceAdd, if_true, if_false, Bool.false_eq_true, reduceCtorEq, truD, Bool.not_true, Bool.not_false, Option.map_some, at0, at1, at2, eqI, neI, true_and, and_true, implies_true, ne_eq, not_false_eq_true, Nat.reduceEqDiff, Bool.not_true]; exact no z
      | l ss =>
        rw [q] at no yes
        have hs : ∀ x ∈ ss, PyData.strOk x = true := by
          have hs' := hl.w p hp
          rw [q] at hs'
          exact hs'
        simp only [mk, sRet, sRetN, sSeq, sNx, sIf, sSet, sSetO, sEx, xU, xF, xB, xCons, xNil, xV, xC, xMv, st0, opt, looks, look, frz, frzs, isiG, tyG, clsG, clssG, O.toD, xAnd, xOr, xNot, xIf, xIfO, xT, xTO, xNotT, xAndT, xOrT, xIfT, xYes, xOp, xUn, xTup, xLst, xCh, xLc, xDc, iA, itemsD, gN, gT, gsC, gsN, sFor, sAsg, isB, iiG0, lenG, listG, tupG, leG, ltG, geG, gtG, intG, Ps.wp, wipeO, xP, xE, cP, cE, isSc, List.map_cons, List.map_nil, List.cons_append, List.nil_append, List.length_cons, List.length_nil, List.getElem?_cons_zero, List.getElem?_cons_succ, List.replicate, List.set_cons_zero, List.set_cons_succ, Nat.reduceSub, Nat.reduceAdd, if_true, if_false, Bool.false_eq_true, reduceCtorEq, truD, Bool.not_true, Bool.not_false, Option.map_some, at0, at1, at2, eqI, neI, true_and, and_true, implies_true, ne_eq, not_false_eq_true, Nat.reduceEqDiff, Lt.d, show PySem.W.kitOne K (.type "list") (.type "str") = some false from rfl, inG_lst true hw hs]
        by_cases z : ent t.2 r p.1 ∈ ss
        · simp only [z, decide_true, Bool.not_true, Bool.false_eq_true, if_false]
          exact yes (decide_eq_true z) _ _ _
        · simp only [z, decide_false, Bool.not_false, if_true]
          exact no (decide_eq_false z)
      | t ss =>
        rw [q] at no yes
        simp only [mk, sRet, sRetN, sSeq, sNx, sIf, sSet, sSetO, sEx, xU, xF, xB, xCons, xNil, xV, xC, xMv, st0, opt, looks, look, frz, frzs, isiG, tyG, clsG, clssG, O.toD, xAnd, xOr, xNot, xIf, xIfO, xT, xTO, xNotT, xAndT, xOrT, xIfT, xYes, xOp, xUn, xTup, xLst, xCh, xLc, xDc, iA, itemsD, gN, gT, gsC, gsN, sFor, sAsg, isB, iiG0, lenG, listG, tupG, leG, ltG, geG, gtG, intG, Ps.wp, wipeO, xP, xE, cP, cE, isSc, List.map_cons, List.map_nil, List.cons_append, List.nil_append, List.length_cons, List.length_nil, List.getElem?_cons_zero, List.getElem?_cons_succ, List.replicate, List.set_cons_zero, List.set_cons_succ, Nat.reduceSub, Nat.reduceAdd, if_true, if_false, Bool.false_eq_true, reduceCtorEq, truD, Bool.not_true, Bool.not_false, Option.map_some, at0, at1, at2, eqI, neI, true_and, and_true, implies_true, ne_eq, not_false_eq_true, Nat.reduceEqDiff, Lt.d, kit_tS, inG_tup]
        by_cases z : ent t.2 r p.1 ∈ ss
        · simp only [z, decide_true, Bool.not_true, Bool.false_eq_true, if_false]
          exact yes (decide_eq_true z) _ _ _
        · simp only [z, decide_false, Bool.not_false, if_true]
          exact no (decide_eq_false z)
/-! databases -/
variable {x : Addr} {rows : List (Str × List (List Key))} {i : Nat}
theorem fld_schema (fk : Fk K cs) {sch : D} (hS : S[i]? = some (.db x cs.Database sch rows)) : fldG K "own_schema" S (.cell i) J = J (.d sch) := by
  show (match S[i]? with | some (.db _ C sch _) => _ | _ => False) = _
  rw [hS]
  exact propext ⟨fun h => h.2.elim (fun z => z.2) fun z => absurd z.1 (by decide +kernel), fun h => ⟨fk.f_Database_own_schema, .inl ⟨rfl, h⟩⟩⟩
theorem fld_rows (fk : Fk K cs) {sch : D} (hS : S[i]? = some (.db x cs.Database sch rows)) : fldG K "own_rows" S (.cell i) J = J (.d (.rows i)) := by
  show (match S[i]? with | some (.db _ C sch _) => _ | _ => False) = _
  rw [hS]
  exact propext ⟨fun h => h.2.elim (fun z => absurd z.1 (by decide +kernel)) fun z => z.2, fun h => ⟨fk.f_Database_own_rows, .inr ⟨rfl, h⟩⟩⟩
theorem cls_db {sch : D} {ρ : List O} {rw vw : Bool} {m : Str} (hS : S[i]? = some (.db x cs.Database sch rows)) (hm : (m == "own_schema" || m == "own_rows") = false) : clsOf ⟨ρ, S, rw, vw⟩ (.v (.cell i)) m = some cs.Database := by
  show (match S[i]? with | some (.db _ C _ _) => (if (m == "own_schema" || m == "own_rows") = true then none else some C) | _ => none) = _
  rw [hS]
  show (if (m == "own_schema" || m == "own_rows") = true then none else some cs.Database) = _
  rw [hm]
  rfl
theorem mt_c : mt___contains__ K cs cs.Schema = some (false, 2, m_Schema___contains__ K cs) := if_pos rfl
theorem mt_nt : mt_need_table K cs cs.Database = some (false, 2, m_Database_need_table K cs) := if_pos rfl
theorem mt_nr : mt_need_rows K cs cs.Database = some (false, 3, m_Database_need_rows K cs) := if_pos rfl
theorem mt_ir : mt_is_row K cs cs.Table = some (false, 2, m_Table_is_row K cs) := if_pos rfl
theorem mt_cn : mt_count K cs cs.Database = some (false, 3, m_Database_count K cs) := if_pos rfl
theorem w_need_table (fk : Fk K cs) (hS : S[i]? = some (.db x cs.Database (schD cs sc) rows)) {n : Str} (hn : n ∈ sc.map (·.1)) (nd : (sc.map (·.1)).Nodup) (h : Q (.d .non) S) : m_Database_need_table K cs [.cell i, .str n] E S Q := by
  unfold m_Database_need_table b_Database_need_table
  have e : ∀ st, clsOf st (.v (schD cs sc)) "__contains__" = some cs.Schema := fun st => cls_sch (by decide +kernel)
  simp only [mk, sRet, sRetN, sSeq, sNx, sIf, sSet, sSetO, sEx, xU, xF, xB, xCons, xNil, xV, xC, xMv, st0, opt, looks, look, frz, frzs, isiG, tyG, clsG, clssG, O.toD, xAnd, xOr, xNot, xIf, xIfO, xT, xTO, xNotT, xAndT, xOrT, xIfT, xYes, xOp, xUn, xTup, xLst, xCh, xLc, xDc, iA, itemsD, gN, gT, gsC, gsN, sFor, sAsg, isB, iiG0, lenG, listG, tupG, leG, ltG, geG, gtG, intG, Ps.wp, wipeO, xP, xE, cP, cE, isSc, List.map_cons, List.map_nil, List.cons_append, List.nil_append, List.length_cons, List.length_nil, List.getElem?_cons_zero, List.getElem?_cons_succ, List.replicate, List.set_cons_zero, List.set_cons_succ, Nat.reduceSub, Nat.reduceAdd, if_true, if_false, Bool.false_eq_true, reduceCtorEq, truD, Bool.not_true, Bool.not_false, Option.map_some, at0, at1, at2, eqI, neI, true_and, and_true, implies_true, ne_eq, not_false_eq_true, Nat.reduceEqDiff, xInS, fld_schema fk hS, e, mt_c, cA]
  refine w_contains fk hn nd ?_
  simp only [mk, sRet, sRetN, sSeq, sNx, sIf, sSet, sSetO, sEx, xU, xF, xB, xCons, xNil, xV, xC, xMv, st0, opt, looks, look, frz, frzs, isiG, tyG, clsG, clssG, O.toD, xAnd, xOr, xNot, xIf, xIfO, xT, xTO, xNotT, xAndT, xOrT, xIfT, xYes, xOp, xUn, xTup, xLst, xCh, xLc, xDc, iA, itemsD, gN, gT, gsC, gsN, sFor, sAsg, isB, iiG0, lenG, listG, tupG, leG, ltG, geG, gtG, intG, Ps.wp, wipeO, xP, xE, cP, cE, isSc, List.map_cons, List.map_nil, List.cons_append, List.nil_append, List.length_cons, List.length_nil, List.getElem?_cons_zero, List.getElem?_cons_succ, List.replicate, List.set_cons_zero, List.set_cons_succ, Nat.reduceSub, Nat.reduceAdd, if_true, if_false, Bool.false_eq_true, reduceCtorEq, truD, Bool.not_true, Bool.not_false, Option.map_some, at0, at1, at2, eqI, neI, true_and, and_true, implies_true, ne_eq, not_false_eq_true, Nat.reduceEqDiff, Bool.not_true]
  exact h
theorem w_need_rows (fk : Fk K cs) (g : GoodS sc) (hS : S[i]? = some (.db x cs.Database (schD cs sc) rows)) (ht : t ∈ sc) {rs : List (List Str)} (hr : ∀ r ∈ rs, rowOk t.2 r) (h : Q (.d .non) S) : m_Database_need_rows K cs [.cell i, .str t.1, .lst (rs.map rowD)] E S Q := by
  unfold m_Database_need_rows b_Database_need_rows
  simp only [mk, st0, List.map_cons, List.map_nil, List.cons_append, List.nil_append, List.length_cons, List.length_nil, Nat.reduceSub, Nat.reduceAdd, List.replicate]
  refine seq_go fun N1 h1 => ?_
  simp only [mk, sRet, sRetN, sSeq, sNx, sIf, sSet, sSetO, sEx, xU, xF, xB, xCons, xNil, xV, xC, xMv, st0, opt, looks, look, frz, frzs, isiG, tyG, clsG, clssG, O.toD, xAnd, xOr, xNot, xIf, xIfO, xT, xTO, xNotT, xAndT, xOrT, xIfT, xYes, xOp, xUn, xTup, xLst, xCh, xLc, xDc, iA, itemsD, gN, gT, gsC, gsN, sFor, sAsg, isB, iiG0, lenG, listG, tupG, leG, ltG, geG, gtG, intG, Ps.wp, wipeO, xP, xE, cP, cE, isSc, List.map_cons, List.map_nil, List.cons_append, List.nil_append, List.length_cons, List.length_nil, List.getElem?_cons_zero, List.getElem?_cons_succ, List.replicate, List.set_cons_zero, List.set_cons_succ, Nat.reduceSub, Nat.reduceAdd, if_true, if_false, Bool.false_eq_true, reduceCtorEq, truD, Bool.not_true, Bool.not_false, Option.map_some, at0, at1, at2, eqI, neI, true_and, and_true, implies_true, ne_eq, not_false_eq_true, Nat.reduceEqDiff, xM, cls_db hS (show (("need_table" : Str) == "own_schema" || ("need_table" : Str) == "own_rows") = false by decide +kernel), mt_nt]
  refine w_need_table fk hS (List.mem_map.mpr ⟨t, ht, rfl⟩) g.nd ?_
  simp only [mk, sRet, sRetN, sSeq, sNx, sIf, sSet, sSetO, sEx, xU, xF, xB, xCons, xNil, xV, xC, xMv, st0, opt, looks, look, frz, frzs, isiG, tyG, clsG, clssG, O.toD, xAnd, xOr, xNot, xIf, xIfO, xT, xTO, xNotT, xAndT, xOrT, xIfT, xYes, xOp, xUn, xTup, xLst, xCh, xLc, xDc, iA, itemsD, gN, gT, gsC, gsN, sFor, sAsg, isB, iiG0, lenG, listG, tupG, leG, ltG, geG, gtG, intG, Ps.wp, wipeO, xP, xE, cP, cE, isSc, List.map_cons, List.map_nil, List.cons_append, List.nil_append, List.length_cons, List.length_nil, List.getElem?_cons_zero, List.getElem?_cons_succ, List.replicate, List.set_cons_zero, List.set_cons_succ, Nat.reduceSub, Nat.reduceAdd, if_true, if_false, Bool.false_eq_true, reduceCtorEq, truD, Bool.not_true, Bool.not_false, Option.map_some, at0, at1, at2, eqI, neI, true_and, and_true, implies_true, ne_eq, not_false_eq_true, Nat.reduceEqDiff, Bool.not_true]
  refine h1 _ ?_
  simp only [mk, sRet, sRetN, sSeq, sNx, sIf, sSet, sSetO, sEx, xU, xF, xB, xCons, xNil, xV, xC, xMv, st0, opt, looks, look, frz, frzs, isiG, tyG, clsG, clssG, O.toD, xAnd, xOr, xNot, xIf, xIfO, xT, xTO, xNotT, xAndT, xOrT, xIfT, xYes, xOp, xUn, xTup, xLst, xCh, xLc, xDc, iA, itemsD, gN, gT, gsC, gsN, sFor, sAsg, isB, iiG0, lenG, listG, tupG, leG, ltG, geG, gtG, intG, Ps.wp, wipeO, xP, xE, cP, cE, isSc, List.map_cons, List.map_nil, List.cons_append, List.nil_append, List.length_cons, List.length_nil, List.getElem?_cons_zero, List.getElem?_cons_succ, List.replicate, List.set_cons_zero, List.set_cons_succ, Nat.reduceSub, Nat.reduceAdd, if_true, if_false, Bool.false_eq_true, reduceCtorEq, truD, Bool.not_true, Bool.not_false, Option.map_some, at0, at1, at2, eqI, neI, true_and, and_true, implies_true, ne_eq, not_false_eq_true, Nat.reduceEqDiff, Bool.not_true]
  refine forW_by (fun ds st => ∃ rs' o3, (∀ r ∈ rs', rowOk t.2 r) ∧ ds = rs'.map rowD ∧ st = ⟨[.d (.cell i), .d (.str t.1), .d (.lst (rs.map rowD)), o3], S, false, false⟩) ?_ ?_ _ _ ⟨rs, _, hr, rfl, rfl⟩
  · rintro st ⟨rs', o3, e1, e2, rfl⟩
    exact h
  · rintro d ds st ⟨rs', o3, e1, e2, rfl⟩ N hN
    cases rs' with
    | nil => cases e2
    | cons r rs' =>
      cases e2
      have e : ∀ st, clsOf st (.v (schD cs sc)) "__getitem__" = some cs.Schema := fun st => cls_sch (by decide +kernel)
      have e' : ∀ st, clsOf st (.v (tabD cs t)) "is_row" = some cs.Table := fun st => cls_tab rfl
      simp only [mk, sRet, sRetN, sSeq, sNx, sIf, sSet, sSetO, sEx, xU, xF, xB, xCons, xNil, xV, xC, xMv, st0, opt, looks, look, frz, frzs, isiG, tyG, clsG, clssG, O.toD, xAnd, xOr, xNot, xIf, xIfO, xT, xTO, xNotT, xAndT, xOrT, xIfT, xYes, xOp, xUn, xTup, xLst, xCh, xLc, xDc, iA, itemsD, gN, gT, gsC, gsN, sFor, sAsg, isB, iiG0, lenG, listG, tupG, leG, ltG, geG, gtG, intG, Ps.wp, wipeO, xP, xE, cP, cE, isSc, List.map_cons, List.map_nil, List.cons_append, List.nil_append, List.length_cons, List.length_nil, List.getElem?_cons_zero, List.getElem?_cons_succ, List.replicate, List.set_cons_zero, List.set_cons_succ, Nat.reduceSub, Nat.reduceAdd, if_true, if_false, Bool.false_eq_true, reduceCtorEq, truD, Bool.not_true, Bool.not_false, Option.map_some, at0, at1, at2, eqI, neI, true_and, and_true, implies_true, ne_eq, not_false_eq_true, Nat.reduceEqDiff, xM, xIxS, fld_schema fk hS, e, cA]
      refine w_getitem fk ht g.nd ?_
      simp only [mk, sRet, sRetN, sSeq, sNx, sIf, sSet, sSetO, sEx, xU, xF, xB, xCons, xNil, xV, xC, xMv, st0, opt, looks, look, frz, frzs, isiG, tyG, clsG, clssG, O.toD, xAnd, xOr, xNot, xIf, xIfO, xT, xTO, xNotT, xAndT, xOrT, xIfT, xYes, xOp, xUn, xTup, xLst, xCh, xLc, xDc, iA, itemsD, gN, gT, gsC, gsN, sFor, sAsg, isB, iiG0, lenG, listG, tupG, leG, ltG, geG, gtG, intG, Ps.wp, wipeO, xP, xE, cP, cE, isSc, List.map_cons, List.map_nil, List.cons_append, List.nil_append, List.length_cons, List.length_nil, List.getElem?_cons_zero, List.getElem?_cons_succ, List.replicate, List.set_cons_zero, List.set_cons_succ, Nat.reduceSub, Nat.reduceAdd, if_true, if_false, Bool.false_eq_true, reduceCtorEq, truD, Bool.not_true, Bool.not_false, Option.map_some, at0, at1, at2, eqI, neI, true_and, and_true, implies_true, ne_eq, not_false_eq_true, Nat.reduceEqDiff, e', mt_ir]
      refine w_is_row fk (g.t _ ht) (e1 r List.mem_cons_self) ?_
      simp only [mk, sRet, sRetN, sSeq, sNx, sIf, sSet, sSetO, sEx, xU, xF, xB, xCons, xNil, xV, xC, xMv, st0, opt, looks, look, frz, frzs, isiG, tyG, clsG, clssG, O.toD, xAnd, xOr, xNot, xIf, xIfO, xT, xTO, xNotT, xAndT, xOrT, xIfT, xYes, xOp, xUn, xTup, xLst, xCh, xLc, xDc, iA, itemsD, gN, gT, gsC, gsN, sFor, sAsg, isB, iiG0, lenG, listG, tupG, leG, ltG, geG, gtG, intG, Ps.wp, wipeO, xP, xE, cP, cE, isSc, List.map_cons, List.map_nil, List.cons_append, List.nil_append, List.length_cons, List.length_nil, List.getElem?_cons_zero, List.getElem?_cons_succ, List.replicate, List.set_cons_zero, List.set_cons_succ, Nat.reduceSub, Nat.reduceAdd, if_true, if_false, Bool.false_eq_true, reduceCtorEq, truD, Bool.not_true, Bool.not_false, Option.map_some, at0, at1, at2, eqI, neI, true_and, and_true, implies_true, ne_eq, not_false_eq_true, Nat.reduceEqDiff, Bool.not_true]
      exact hN _ ⟨rs', _, fun r' z => e1 r' (List.mem_cons_of_mem _ z), rfl, rfl⟩
end Q
namespace Q
open PySem L2 PySem.Spec PyProof.Rows
variable {K : PySem.W.Frag} {cs : Cs} {E : EF} {S : List Cell} {Q : O → List Cell → Prop} {J : O → Prop} {t : Tab} {sc : List Tab}
variable {x : Addr} {rows : List (Str × List (List Key))} {i : Nat}
theorem nms_map : ∀ ns : List Str, nmsD (ns.map D.str) = some ns
  | [] => rfl
  | n :: ns => by rw [List.map_cons, nmsD, nms_map ns]
theorem w_db_init (fk : Fk K cs) (g : GoodS sc) {QN : Nat → List Cell → Prop} (h : ∀ x, QN S.length (S ++ [.db x cs.Database (schD cs sc) (noRows (sc.map (·.1)))])) : i_Database___init__ K cs [schD cs sc] E S QN := by
  intro x
  unfold b_Database___init__
  simp only [mk, st0, List.map_cons, List.map_nil, List.cons_append, List.nil_append, List.length_cons, List.length_nil, Nat.reduceSub, Nat.reduceAdd, List.replicate]
  have e : ∀ st, clsOf st (.v (schD cs sc)) "names" = some cs.Schema := fun st => cls_sch (by decide +kernel)
  show sIf _ _ _ _ _ _
  simp only [sIf, xT, xF, xB, xCons, xNil, xV, xC, looks, look, opt, List.getElem?_cons_zero, List.getElem?_cons_succ, isi_sch fk, O.toD, truD, Bool.false_eq_true, if_false]
  refine seq_go fun N1 h1 => ?_
  simp only [mk, sRet, sRetN, sSeq, sNx, sIf, sSet, sSetO, sEx, xU, xF, xB, xCons, xNil, xV, xC, xMv, st0, opt, looks, look, frz, frzs, isiG, tyG, clsG, clssG, O.toD, xAnd, xOr, xNot, xIf, xIfO, xT, xTO, xNotT, xAndT, xOrT, xIfT, xYes, xOp, xUn, xTup, xLst, xCh, xLc, xDc, iA, itemsD, gN, gT, gsC, gsN, sFor, sAsg, isB, iiG0, lenG, listG, tupG, leG, ltG, geG, gtG, intG, Ps.wp, wipeO, xP, xE, cP, cE, isSc, List.map_cons, List.map_nil, List.cons_append, List.nil_append, List.length_cons, List.length_nil, List.getElem?_cons_zero, List.getElem?_cons_succ, List.replicate, List.set_cons_zero, List.set_cons_succ, Nat.reduceSub, Nat.reduceAdd, if_true, if_false, Bool.false_eq_true, reduceCtorEq, truD, Bool.not_true, Bool.not_false, Option.map_some, at0, at1, at2, eqI, neI, true_and, and_true, implies_true, ne_eq, not_false_eq_true, Nat.reduceEqDiff, sFldI, putFD]
  refine ⟨fk.f_Database_own_schema, by decide, h1 _ ?_⟩
  simp only [sRows0, iA, xF, xPr, xV, List.getElem?_cons_zero, List.getElem?_cons_succ, e, true_and, cA, cP, looks, look, opt, frzs, frz, List.length_cons, List.length_nil, Nat.zero_add, Bool.false_eq_true, if_false]
  refine w_names fk ?_
  have e1 : (sc.map fun t => D.str t.1) = (sc.map (·.1)).map D.str := by rw [List.map_map]; rfl
  rw [e1]
  simp only [mk, sRet, sRetN, sSeq, sNx, sIf, sSet, sSetO, sEx, xU, xF, xB, xCons, xNil, xV, xC, xMv, st0, opt, looks, look, frz, frzs, isiG, tyG, clsG, clssG, O.toD, xAnd, xOr, xNot, xIf, xIfO, xT, xTO, xNotT, xAndT, xOrT, xIfT, xYes, xOp, xUn, xTup, xLst, xCh, xLc, xDc, iA, itemsD, gN, gT, gsC, gsN, sFor, sAsg, isB, iiG0, lenG, listG, tupG, leG, ltG, geG, gtG, intG, Ps.wp, wipeO, xP, xE, cP, cE, isSc, List.map_cons, List.map_nil, List.cons_append, List.nil_append, List.length_cons, List.length_nil, List.getElem?_cons_zero, List.getElem?_cons_succ, List.replicate, List.set_cons_zero, List.set_cons_succ, Nat.reduceSub, Nat.reduceAdd, if_true, if_false, Bool.false_eq_true, reduceCtorEq, truD, Bool.not_true, Bool.not_false, Option.map_some, at0, at1, at2, eqI, neI, true_and, and_true, implies_true, ne_eq, not_false_eq_true, Nat.reduceEqDiff, nms_map]
  refine ⟨g.nd, by rw [List.length_map, sizeLine_eq]; have := g.l4; omega, by decide, fk.f_Database_own_rows, ?_⟩
  show endDb _ _ _
  unfold endDb
  show (match (S ++ [Cell.db x cs.Database (schD cs sc) (noRows (sc.map (·.1)))])[S.length]? with | some (.db y _ _ _) => y = x ∧ QN S.length _ | _ => False)
  rw [List.getElem?_append_right (Nat.le_refl _), Nat.sub_self]
  exact ⟨rfl, h x⟩
def rowK (r : List Str) : List Key := r.map fun s => (Sum.inr s : Key)
theorem rowD_keys (r : List Str) : D.tup ((rowK r).map kD) = rowD r := by
  unfold rowK rowD
  rw [List.map_map]
  rfl
theorem rowK_inj {a b : List Str} (h : rowK a = rowK b) : a = b := by
  unfold rowK at h
  exact (List.map_inj_right fun x y e => Sum.inr.inj e).mp h
theorem trues_map : ∀ ks : List (List Key), truesD (ks.map fun k => (k, D.bl true)) = some ks
  | [] => rfl
  | k :: ks => by rw [List.map_cons, truesD, trues_map ks]
def strsOf : List D → List Str
  | [] => []
  | .str s :: ds => s :: strsOf ds
  | _ :: ds => strsOf ds
theorem strsOf_map : ∀ ns : List Str, strsOf (ns.map D.str) = ns
  | [] => rfl
  | n :: ns => by rw [List.map_cons, strsOf, strsOf_map ns]
theorem w_setitem (fk : Fk K cs) (g : GoodS sc) (hS : S[i]? = some (.db x cs.Database (schD cs sc) rows)) (ht : t ∈ sc) (hn : t.1 ∈ rows.map (·.1)) (hrl : rows.length ≤ 1000) {rs : List (List Str)} (hr : ∀ r ∈ rs, rowOk t.2 r) (nd : rs.Nodup) (hl : rs.length ≤ 1000) (h : Q (.d .non) (S.set i (.db x cs.Database (schD cs sc) (setRows rows t.1 (rs.map rowK))))) : m_Database___setitem__ K cs [.cell i, .str t.1, .lst (rs.map rowD)] E S Q := by
  unfold m_Database___setitem__ b_Database___setitem__
  simp only [mk, st0, List.map_cons, List.map_nil, List.cons_append, List.nil_append, List.length_cons, List.length_nil, Nat.reduceSub, Nat.reduceAdd, List.replicate]
  refine seq_go fun N1 h1 => ?_
  simp only [mk, sRet, sRetN, sSeq, sNx, sIf, sSet, sSetO, sEx, xU, xF, xB, xCons, xNil, xV, xC, xMv, st0, opt, looks, look, frz, frzs, isiG, tyG, clsG, clssG, O.toD, xAnd, xOr, xNot, xIf, xIfO, xT, xTO, xNotT, xAndT, xOrT, xIfT, xYes, xOp, xUn, xTup, xLst, xCh, xLc, xDc, iA, itemsD, gN, gT, gsC, gsN, sFor, sAsg, isB, iiG0, lenG, listG, tupG, leG, ltG, geG, gtG, intG, Ps.wp, wipeO, xP, xE, cP, cE, isSc, List.map_cons, List.map_nil, List.cons_append, List.nil_append, List.length_cons, List.length_nil, List.getElem?_cons_zero, List.getElem?_cons_succ, List.replicate, List.set_cons_zero, List.set_cons_succ, Nat.reduceSub, Nat.reduceAdd, if_true, if_false, Bool.false_eq_true, reduceCtorEq, truD, Bool.not_true, Bool.not_false, Option.map_some, at0, at1, at2, eqI, neI, true_and, and_true, implies_true, ne_eq, not_false_eq_true, Nat.reduceEqDiff, xM, cls_db hS (show (("need_rows" : Str) == "own_schema" || ("need_rows" : Str) == "own_rows") = false by decide +kernel), mt_nr]
  refine w_need_rows fk g hS ht hr ?_
  simp only [mk, sRet, sRetN, sSeq, sNx, sIf, sSet, sSetO, sEx, xU, xF, xB, xCons, xNil, xV, xC, xMv, st0, opt, looks, look, frz, frzs, isiG, tyG, clsG, clssG, O.toD, xAnd, xOr, xNot, xIf, xIfO, xT, xTO, xNotT, xAndT, xOrT, xIfT, xYes, xOp, xUn, xTup, xLst, xCh, xLc, xDc, iA, itemsD, gN, gT, gsC, gsN, sFor, sAsg, isB, iiG0, lenG, listG, tupG, leG, ltG, geG, gtG, intG, Ps.wp, wipeO, xP, xE, cP, cE, isSc, List.map_cons, List.map_nil, List.cons_append, List.nil_append, List.length_cons, List.length_nil, List.getElem?_cons_zero, List.getElem?_cons_succ, List.replicate, List.set_cons_zero, List.set_cons_succ, Nat.reduceSub, Nat.reduceAdd, if_true, if_false, Bool.false_eq_true, reduceCtorEq, truD, Bool.not_true, Bool.not_false, Option.map_some, at0, at1, at2, eqI, neI, true_and, and_true, implies_true, ne_eq, not_false_eq_true, Nat.reduceEqDiff, Bool.not_true]
  refine h1 _ ?_
  simp only [mk, sRet, sRetN, sSeq, sNx, sIf, sSet, sSetO, sEx, xU, xF, xB, xCons, xNil, xV, xC, xMv, st0, opt, looks, look, frz, frzs, isiG, tyG, clsG, clssG, O.toD, xAnd, xOr, xNot, xIf, xIfO, xT, xTO, xNotT, xAndT, xOrT, xIfT, xYes, xOp, xUn, xTup, xLst, xCh, xLc, xDc, iA, itemsD, gN, gT, gsC, gsN, sFor, sAsg, isB, iiG0, lenG, listG, tupG, leG, ltG, geG, gtG, intG, Ps.wp, wipeO, xP, xE, cP, cE, isSc, List.map_cons, List.map_nil, List.cons_append, List.nil_append, List.length_cons, List.length_nil, List.getElem?_cons_zero, List.getElem?_cons_succ, List.replicate, List.set_cons_zero, List.set_cons_succ, Nat.reduceSub, Nat.reduceAdd, if_true, if_false, Bool.false_eq_true, reduceCtorEq, truD, Bool.not_true, Bool.not_false, Option.map_some, at0, at1, at2, eqI, neI, true_and, and_true, implies_true, ne_eq, not_false_eq_true, Nat.reduceEqDiff, sTabSet, noKeysO]
  have e2 : List.filterMap (fun d => match d with | D.tup ds => some (rowK (strsOf ds), D.bl true) | _ => none) (rs.map rowD) = (rs.map rowK).map fun k => (k, D.bl true) := by
    rw [List.filterMap_map, List.map_map]
    refine fm_all fun r _ => ?_
    show some (rowK (strsOf (r.map D.str)), D.bl true) = _
    rw [strsOf_map]
    rfl
  refine dcW_T (st0 := ⟨[.d (.cell i), .d (.str t.1), .d (.lst (rs.map rowD)), .un], S, true, false⟩) (fun d => match d with | D.tup ds => some (rowK (strsOf ds), D.bl true) | _ => none) _ _ _ rfl ?_ ?_ ?_ ?_
  · rw [List.length_map, sizeLine_eq, List.length_nil]; omega
  · rw [List.nil_append, e2, List.map_map]
    show ((rs.map rowK).map fun k => k).Nodup
    rw [List.map_id']
    exact nodup_map_on nd fun a _ b _ e => rowK_inj e
  · intro d hd R1 R0 hR
    obtain ⟨r, hr', rfl⟩ := List.mem_map.mp hd
    simp only [mk, sRet, sRetN, sSeq, sNx, sIf, sSet, sSetO, sEx, xU, xF, xB, xCons, xNil, xV, xC, xMv, st0, opt, looks, look, frz, frzs, isiG, tyG, clsG, clssG, O.toD, xAnd, xOr, xNot, xIf, xIfO, xT, xTO, xNotT, xAndT, xOrT, xIfT, xYes, xOp, xUn, xTup, xLst, xCh, xLc, xDc, iA, itemsD, gN, gT, gsC, gsN, sFor, sAsg, isB, iiG0, lenG, listG, tupG, leG, ltG, geG, gtG, intG, Ps.wp, wipeO, xP, xE, cP, cE, isSc, List.map_cons, List.map_nil, List.cons_append, List.nil_append, List.length_cons, List.length_nil, List.getElem?_cons_zero, List.getElem?_cons_succ, List.replicate, List.set_cons_zero, List.set_cons_succ, Nat.reduceSub, Nat.reduceAdd, if_true, if_false, Bool.false_eq_true, reduceCtorEq, truD, Bool.not_true, Bool.not_false, Option.map_some, at0, at1, at2, eqI, neI, true_and, and_true, implies_true, ne_eq, not_false_eq_true, Nat.reduceEqDiff, Bool.not_true]
    have := hR ⟨[.d (.cell i), .d (.str t.1), .d (.lst (rs.map rowD)), .d (rowD r)], S, true, false⟩ rfl
    have e3 : R1 (.tup ((rowK (strsOf (r.map D.str))).map kD)) (.bl true) ⟨[.d (.cell i), .d (.str t.1), .d (.lst (rs.map rowD)), .d (rowD r)], S, true, false⟩ := this
    rw [strsOf_map, rowD_keys] at e3
    exact e3
  rw [List.nil_append, e2]
  simp only [mk, sRet, sRetN, sSeq, sNx, sIf, sSet, sSetO, sEx, xU, xF, xB, xCons, xNil, xV, xC, xMv, st0, opt, looks, look, frz, frzs, isiG, tyG, clsG, clssG, O.toD, xAnd, xOr, xNot, xIf, xIfO, xT, xTO, xNotT, xAndT, xOrT, xIfT, xYes, xOp, xUn, xTup, xLst, xCh, xLc, xDc, iA, itemsD, gN, gT, gsC, gsN, sFor, sAsg, isB, iiG0, lenG, listG, tupG, leG, ltG, geG, gtG, intG, Ps.wp, wipeO, xP, xE, cP, cE, isSc, List.map_cons, List.map_nil, List.cons_append, List.nil_append, List.length_cons, List.length_nil, List.getElem?_cons_zero, List.getElem?_cons_succ, List.replicate, List.set_cons_zero, List.set_cons_succ, Nat.reduceSub, Nat.reduceAdd, if_true, if_false, Bool.false_eq_true, reduceCtorEq, truD, Bool.not_true, Bool.not_false, Option.map_some, at0, at1, at2, eqI, neI, true_and, and_true, implies_true, ne_eq, not_false_eq_true, Nat.reduceEqDiff, fld_rows fk hS, tabSetK, trues_map, hS]
  exact ⟨hn, by rw [sizeLine_eq]; omega, h⟩
/-- how many rows of a table fit -/
def cnt (t : Tab) (rs : List (List Str)) (ls : List (Str × Lt)) : Nat := (rs.filter fun r => fitB t.2 r ls).length
theorem rows_val {f : Str → List (List Key)} (nd : (sc.map (·.1)).Nodup) (ht : t ∈ sc) : dgG (rowsD (sc.map fun t => (t.1, f t.1))) (.str t.1) = some (.d (.dT ((f t.1).map fun k => (k, D.bl true)))) := by
  unfold rowsD
  refine dgG_dK (valD_of ?_ (List.mem_map.mpr ⟨(t.1, f t.1), List.mem_map.mpr ⟨t, ht, rfl⟩, rfl⟩))
  rw [List.map_map, List.map_map]
  have := nd_inr nd
  rw [List.map_map] at this
  exact this
theorem w_count (fk : Fk K cs) (g : GoodS sc) {f : Str → List (List Key)} (hS : S[i]? = some (.db x cs.Database (schD cs sc) (sc.map fun t => (t.1, f t.1)))) (ht : t ∈ sc) {rs : List (List Str)} (hf : f t.1 = rs.map rowK) (hr : ∀ r ∈ rs, rowOk t.2 r) (hl : rs.length ≤ 1000) {ls : List (Str × Lt)} (ok : LetsOk t.2 ls) (h : Q (.d (.int (cnt t rs ls : Nat))) S) : m_Database_count K cs [.cell i, .str t.1, .dK (letsK ls)] E S Q := by
  unfold m_Database_count b_Database_count
  simp only [mk, st0, List.map_cons, List.map_nil, List.cons_append, List.nil_append, List.length_cons, List.length_nil, Nat.reduceSub, Nat.reduceAdd, List.replicate]
  refine seq_go fun N1 h1 => ?_
  simp only [mk, sRet, sRetN, sSeq, sNx, sIf, sSet, sSetO, sEx, xU, xF, xB, xCons, xNil, xV, xC, xMv, st0, opt, looks, look, frz, frzs, isiG, tyG, clsG, clssG, O.toD, xAnd, xOr, xNot, xIf, xIfO, xT, xTO, xNotT, xAndT, xOrT, xIfT, xYes, xOp, xUn, xTup, xLst, xCh, xLc, xDc, iA, itemsD, gN, gT, gsC, gsN, sFor, sAsg, isB, iiG0, lenG, listG, tupG, leG, ltG, geG, gtG, intG, Ps.wp, wipeO, xP, xE, cP, cE, isSc, List.map_cons, List.map_nil, List.cons_append, List.nil_append, List.length_cons, List.length_nil, List.getElem?_cons_zero, List.getElem?_cons_succ, List.replicate, List.set_cons_zero, List.set_cons_succ, Nat.reduceSub, Nat.reduceAdd, if_true, if_false, Bool.false_eq_true, reduceCtorEq, truD, Bool.not_true, Bool.not_false, Option.map_some, at0, at1, at2, eqI, neI, true_and, and_true, implies_true, ne_eq, not_false_eq_true, Nat.reduceEqDiff, xM, cls_db hS (show (("need_table" : Str) == "own_schema" || ("need_table" : Str) == "own_rows") = false by decide +kernel), mt_nt]
  refine w_need_table fk hS (List.mem_map.mpr ⟨t, ht, rfl⟩) g.nd ?_
  simp only [mk, sRet, sRetN, sSeq, sNx, sIf, sSet, sSetO, sEx, xU, xF, xB, xCons, xNil, xV, xC, xMv, st0, opt, looks, look, frz, frzs, isiG, tyG, clsG, clssG, O.toD, xAnd, xOr, xNot, xIf, xIfO, xT, xTO, xNotT, xAndT, xOrT, xIfT, xYes, xOp, xUn, xTup, xLst, xCh, xLc, xDc, iA, itemsD, gN, gT, gsC, gsN, sFor, sAsg, isB, iiG0, lenG, listG, tupG, leG, ltG, geG, gtG, intG, Ps.wp, wipeO, xP, xE, cP, cE, isSc, List.map_cons, List.map_nil, List.cons_append, List.nil_append, List.length_cons, List.length_nil, List.getElem?_cons_zero, List.getElem?_cons_succ, List.replicate, List.set_cons_zero, List.set_cons_succ, Nat.reduceSub, Nat.reduceAdd, if_true, if_false, Bool.false_eq_true, reduceCtorEq, truD, Bool.not_true, Bool.not_false, Option.map_some, at0, at1, at2, eqI, neI, true_and, and_true, implies_true, ne_eq, not_false_eq_true, Nat.reduceEqDiff, Bool.not_true]
  refine h1 _ (seq_go fun N2 h2 => ?_)
  have e : ∀ st, clsOf st (.v (schD cs sc)) "__getitem__" = some cs.Schema := fun st => cls_sch (by decide +kernel)
  simp only [mk, sRet, sRetN, sSeq, sNx, sIf, sSet, sSetO, sEx, xU, xF, xB, xCons, xNil, xV, xC, xMv, st0, opt, looks, look, frz, frzs, isiG, tyG, clsG, clssG, O.toD, xAnd, xOr, xNot, xIf, xIfO, xT, xTO, xNotT, xAndT, xOrT, xIfT, xYes, xOp, xUn, xTup, xLst, xCh, xLc, xDc, iA, itemsD, gN, gT, gsC, gsN, sFor, sAsg, isB, iiG0, lenG, listG, tupG, leG, ltG, geG, gtG, intG, Ps.wp, wipeO, xP, xE, cP, cE, isSc, List.map_cons, List.map_nil, List.cons_append, List.nil_append, List.length_cons, List.length_nil, List.getElem?_cons_zero, List.getElem?_cons_succ, List.replicate, List.set_cons_zero, List.set_cons_succ, Nat.reduceSub, Nat.reduceAdd, if_true, if_false, Bool.false_eq_true, reduceCtorEq, truD, Bool.not_true, Bool.not_false, Option.map_some, at0, at1, at2, eqI, neI, true_and, and_true, implies_true, ne_eq, not_false_eq_true, Nat.reduceEqDiff, xIxS, fld_schema fk hS, e, cA]
  refine w_getitem fk ht g.nd ?_
  simp only [mk, sRet, sRetN, sSeq, sNx, sIf, sSet, sSetO, sEx, xU, xF, xB, xCons, xNil, xV, xC, xMv, st0, opt, looks, look, frz, frzs, isiG, tyG, clsG, clssG, O.toD, xAnd, xOr, xNot, xIf, xIfO, xT, xTO, xNotT, xAndT, xOrT, xIfT, xYes, xOp, xUn, xTup, xLst, xCh, xLc, xDc, iA, itemsD, gN, gT, gsC, gsN, sFor, sAsg, isB, iiG0, lenG, listG, tupG, leG, ltG, geG, gtG, intG, Ps.wp, wipeO, xP, xE, cP, cE, isSc, List.map_cons, List.map_nil, List.cons_append, List.nil_append, List.length_cons, List.length_nil, List.getElem?_cons_zero, List.getElem?_cons_succ, List.replicate, List.set_cons_zero, List.set_cons_succ, Nat.reduceSub, Nat.reduceAdd, if_true, if_false, Bool.false_eq_true, reduceCtorEq, truD, Bool.not_true, Bool.not_false, Option.map_some, at0, at1, at2, eqI, neI, true_and, and_true, implies_true, ne_eq, not_false_eq_true, Nat.reduceEqDiff, Bool.not_true]
  refine h2 _ (seq_go fun N3 h3 => ?_)
  simp only [mk, sRet, sRetN, sSeq, sNx, sIf, sSet, sSetO, sEx, xU, xF, xB, xCons, xNil, xV, xC, xMv, st0, opt, looks, look, frz, frzs, isiG, tyG, clsG, clssG, O.toD, xAnd, xOr, xNot, xIf, xIfO, xT, xTO, xNotT, xAndT, xOrT, xIfT, xYes, xOp, xUn, xTup, xLst, xCh, xLc, xDc, iA, itemsD, gN, gT, gsC, gsN, sFor, sAsg, isB, iiG0, lenG, listG, tupG, leG, ltG, geG, gtG, intG, Ps.wp, wipeO, xP, xE, cP, cE, isSc, List.map_cons, List.map_nil, List.cons_append, List.nil_append, List.length_cons, List.length_nil, List.getElem?_cons_zero, List.getElem?_cons_succ, List.replicate, List.set_cons_zero, List.set_cons_succ, Nat.reduceSub, Nat.reduceAdd, if_true, if_false, Bool.false_eq_true, reduceCtorEq, truD, Bool.not_true, Bool.not_false, Option.map_some, at0, at1, at2, eqI, neI, true_and, and_true, implies_true, ne_eq, not_false_eq_true, Nat.reduceEqDiff, Bool.not_true]
  refine forW_by (fun ds st => ∃ ls' o4, (∀ p ∈ ls', p ∈ ls) ∧ ds = (letsK ls').map (fun kv => kD kv.1) ∧ st = ⟨[.d (.cell i), .d (.str t.1), .d (.dK (letsK ls)), .d (tabD cs t), o4, .un], S, false, false⟩) ?_ ?_ _ _ ⟨ls, _, fun _ z => z, rfl, rfl⟩
  · rintro st ⟨ls', o4, e1, e2, rfl⟩
    refine h3 _ ?_
    simp only [sRet, xVw, xB, xCons, xNil, xF, xLc, iA, xOp, xOpen, xUn, xV, List.getElem?_cons_zero, List.getElem?_cons_succ, look, opt, fld_rows fk hS, O.toD, hS, true_and, frz, rows_val g.nd ht, itemsD, hf]
    have e3 : List.map (fun kv : List Key × D => D.tup (kv.1.map kD)) (List.map (fun k => (k, D.bl true)) (rs.map rowK)) = rs.map rowD := by
      rw [List.map_map, List.map_map]
      refine List.map_congr_left fun r _ => ?_
      exact rowD_keys r
    rw [e3]
    refine lcW_pure (st0 := ⟨[.d (.cell i), .d (.str t.1), .d (.dK (letsK ls)), .d (tabD cs t), o4, .un], S, false, true⟩) (fun d => match d with | .tup ds => if fitB t.2 (strsOf ds) ls then some d else none | _ => none) _ _ _ rfl ?_ ?_ ?_
    · rw [List.length_map, sizeLine_eq, List.length_nil]; omega
    · intro d hd R1 R0 hR
      obtain ⟨r, hr', rfl⟩ := List.mem_map.mp hd
      have hR' : ∀ st' : Ps, st'.wp [5] = ⟨[.d (.cell i), .d (.str t.1), .d (.dK (letsK ls)), .d (tabD cs t), o4, .un], S, false, true⟩ → match (if fitB t.2 r ls then some (rowD r) else none) with | some y => R1 y st' | none => R0 st' := by
        intro st' z
        have := hR st' z
        have e4 : (match rowD r with | .tup ds => if fitB t.2 (strsOf ds) ls then some (rowD r) else none | _ => none) = if fitB t.2 r ls then some (rowD r) else none := by
          show (if fitB t.2 (strsOf (r.map D.str)) ls then some (rowD r) else none) = _
          rw [strsOf_map]
        rw [e4] at this
        exact this
      clear hR
      simp only [gN, gT, gsC, gsN, xYes, if_true, true_and, and_true, List.length_cons, List.length_nil, Nat.reduceAdd, Nat.zero_add, List.set_cons_zero, List.set_cons_succ, Ps.wp, wipeO]
      simp only [xT, xF, xP, xCons, xNil, xV, List.getElem?_cons_zero, List.getElem?_cons_succ, cP, looks, look, opt, frzs, frz, List.length_cons, List.length_nil, Nat.zero_add, Nat.reduceAdd, true_and]
      refine w_fits fk (hr r hr') ok ?_
      simp only [isSc, if_true, O.toD, truD]
      have hR2 := hR' ⟨[.d (.cell i), .d (.str t.1), .d (.dK (letsK ls)), .d (tabD cs t), o4, .d (rowD r)], S, false, true⟩ rfl
      cases z : fitB t.2 r ls with
      | true => rw [z] at hR2; exact hR2
      | false => rw [z] at hR2; exact hR2
    · have e5 : List.filterMap (fun d => match d with | D.tup ds => if fitB t.2 (strsOf ds) ls then some d else none | _ => none) (rs.map rowD) = (rs.filter fun r => fitB t.2 r ls).map rowD := by
        clear e3 hr hl hf h
        induction rs with
        | nil => rfl
        | cons r rs ih =>
          rw [List.map_cons, List.filterMap_cons, List.filter_cons]
          have e4 : (match rowD r with | .tup ds => if fitB t.2 (strsOf ds) ls then some (rowD r) else none | _ => none) = if fitB t.2 r ls then some (rowD r) else none := by
            show (if fitB t.2 (strsOf (r.map D.str)) ls then some (rowD r) else none) = _
            rw [strsOf_map]
          rw [e4]
          cases z : fitB t.2 r ls with
          | true => rw [if_pos rfl, if_pos rfl, List.map_cons, ← ih]
          | false => rw [if_neg Bool.false_ne_true, if_neg Bool.false_ne_true, ih]
      rw [e5]
      simp only [List.nil_append, O.toD, looks, look, lenG, List.length_map, flO, flD, true_and]
      exact h
  · rintro d ds st ⟨ls', o4, e1, e2, rfl⟩ N hN
    cases ls' with
    | nil => cases e2
    | cons p ls' =>
      cases e2
      have ev : (valD (posK 0 t.2) (Sum.inr p.1 : Key)).isSome = true := by rw [pos_val 0 (ok.c p (e1 p List.mem_cons_self))]; rfl
      simp only [mk, sRet, sRetN, sSeq, sNx, sIf, sSet, sSetO, sEx, xU, xF, xB, xCons, xNil, xV, xC, xMv, st0, opt, looks, look, frz, frzs, isiG, tyG, clsG, clssG, O.toD, xAnd, xOr, xNot, xIf, xIfO, xT, xTO, xNotT, xAndT, xOrT, xIfT, xYes, xOp, xUn, xTup, xLst, xCh, xLc, xDc, iA, itemsD, gN, gT, gsC, gsN, sFor, sAsg, isB, iiG0, lenG, listG, tupG, leG, ltG, geG, gtG, intG, Ps.wp, wipeO, xP, xE, cP, cE, isSc, List.map_cons, List.map_nil, List.cons_append, List.nil_append, List.length_cons, List.length_nil, List.getElem?_cons_zero, List.getElem?_cons_succ, List.replicate, List.set_cons_zero, List.set_cons_succ, Nat.reduceSub, Nat.reduceAdd, if_true, if_false, Bool.false_eq_true, reduceCtorEq, truD, Bool.not_true, Bool.not_false, Option.map_some, at0, at1, at2, eqI, neI, true_and, and_true, implies_true, ne_eq, not_false_eq_true, Nat.reduceEqDiff, kD, fld_positions fk, inG_dK, ev]
      exact hN _ ⟨ls', _, fun p' z => e1 p' (List.mem_cons_of_mem _ z), rfl, rfl⟩
end Q
namespace Q
open PySem L2 PySem.Spec PyProof.Rows
variable {K : PySem.W.Frag} {cs : Cs} {E : EF} {S : List Cell} {Q : O → List Cell → Prop} {J : O → Prop} {t : Tab} {sc : List Tab}
theorem fm_head {α β : Type} {f : α → Option β} {a : α} {b : β} (hb : f a = some b) : ∀ {l : List α}, a ∈ l → (∀ x ∈ l, ∀ y, f x = some y → x = a) → ∃ rest, l.filterMap f = b :: rest
  | [], h, _ => absurd h List.not_mem_nil
  | x :: l, h, u => by
    rw [List.filterMap_cons]
    cases e : f x with
    | some y =>
      have := u x List.mem_cons_self y e
      subst this
      rw [hb] at e
      cases e
      exact ⟨_, rfl⟩
    | none =>
      have hx : a ∈ l := (List.mem_cons.mp h).resolve_left fun z => by rw [z, e] at hb; cases hb
      exact fm_head hb hx fun x' h' => u x' (List.mem_cons_of_mem _ h')
theorem ix0L {x : D} {xs : List D} : ixD (.lst (x :: xs)) (.int 0) = some (.d x) := by
  show (atI _ _).map O.d = _
  rw [at0]
  rfl
theorem w_columns_of (g : GoodS sc) (ht : t ∈ sc) (h : Q (.d (.lst (t.2.map colD))) S) : m__law_columns_of K cs [scD sc, .str t.1] E S Q := by
  unfold m__law_columns_of b__law_columns_of scD
  simp only [mk, sRet, sRetN, sSeq, sNx, sIf, sSet, sSetO, sEx, xU, xF, xB, xCons, xNil, xV, xC, xMv, st0, opt, looks, look, frz, frzs, isiG, tyG, clsG, clssG, O.toD, xAnd, xOr, xNot, xIf, xIfO, xT, xTO, xNotT, xAndT, xOrT, xIfT, xYes, xOp, xUn, xTup, xLst, xCh, xLc, xDc, iA, itemsD, gN, gT, gsC, gsN, sFor, sAsg, isB, iiG0, lenG, listG, tupG, leG, ltG, geG, gtG, intG, Ps.wp, wipeO, xP, xE, cP, cE, isSc, List.map_cons, List.map_nil, List.cons_append, List.nil_append, List.length_cons, List.length_nil, List.getElem?_cons_zero, List.getElem?_cons_succ, List.replicate, List.set_cons_zero, List.set_cons_succ, Nat.reduceSub, Nat.reduceAdd, if_true, if_false, Bool.false_eq_true, reduceCtorEq, truD, Bool.not_true, Bool.not_false, Option.map_some, at0, at1, at2, eqI, neI, true_and, and_true, implies_true, ne_eq, not_false_eq_true, Nat.reduceEqDiff, Bool.not_true]
  have hw := word_ok (g.t _ ht).w
  refine lcW_pure (st0 := ⟨[.d (.lst (sc.map plD)), .d (.str t.1), .un, .un], S, false, false⟩) (fun d => match d with | .tup [.str n, c] => if n = t.1 then some c else none | _ => none) _ _ _ rfl ?_ ?_ ?_
  · rw [List.length_map, sizeLine_eq, List.length_nil]; have := g.l4; omega
  · intro d hd R1 R0 hR
    obtain ⟨t', ht', rfl⟩ := List.mem_map.mp hd
    have hw' := word_ok (g.t _ ht').w
    have hR' := hR ⟨[.d (.lst (sc.map plD)), .d (.str t.1), .d (.str t'.1), .d (.lst (t'.2.map colD))], S, false, false⟩ rfl
    unfold plD at hR' ⊢
    simp only [mk, sRet, sRetN, sSeq, sNx, sIf, sSet, sSetO, sEx, xU, xF, xB, xCons, xNil, xV, xC, xMv, st0, opt, looks, look, frz, frzs, isiG, tyG, clsG, clssG, O.toD, xAnd, xOr, xNot, xIf, xIfO, xT, xTO, xNotT, xAndT, xOrT, xIfT, xYes, xOp, xUn, xTup, xLst, xCh, xLc, xDc, iA, itemsD, gN, gT, gsC, gsN, sFor, sAsg, isB, iiG0, lenG, listG, tupG, leG, ltG, geG, gtG, intG, Ps.wp, wipeO, xP, xE, cP, cE, isSc, List.map_cons, List.map_nil, List.cons_append, List.nil_append, List.length_cons, List.length_nil, List.getElem?_cons_zero, List.getElem?_cons_succ, List.replicate, List.set_cons_zero, List.set_cons_succ, Nat.reduceSub, Nat.reduceAdd, if_true, if_false, Bool.false_eq_true, reduceCtorEq, truD, Bool.not_true, Bool.not_false, Option.map_some, at0, at1, at2, eqI, neI, true_and, and_true, implies_true, ne_eq, not_false_eq_true, Nat.reduceEqDiff, eqS hw' hw]
    by_cases z : t'.1 = t.1
    · simp only [z, decide_true, if_true] at hR' ⊢
      exact hR'
    · simp only [z, decide_false, if_false, Bool.false_eq_true] at hR' ⊢
      exact hR'
  · obtain ⟨rest, e⟩ := fm_head (f := fun d => match d with | D.tup [.str n, c] => if n = t.1 then some c else none | _ => none) (a := plD t) (b := .lst (t.2.map colD)) (if_pos rfl) (List.mem_map.mpr ⟨t, ht, rfl⟩) (l := sc.map plD) (fun d hd y hy => by
      obtain ⟨t', ht', rfl⟩ := List.mem_map.mp hd
      have hy' : (if t'.1 = t.1 then some (D.lst (t'.2.map colD)) else none) = some y := hy
      by_cases z : t'.1 = t.1
      · obtain ⟨i, hi, ei⟩ := List.getElem_of_mem ht
        obtain ⟨j, hj, ej⟩ := List.getElem_of_mem ht'
        have : i = j := (List.getElem?_inj (by rw [List.length_map]; exact hi) g.nd).mp (by rw [List.getElem?_map, List.getElem?_map, List.getElem?_eq_getElem hi, List.getElem?_eq_getElem hj, ei, ej]; exact congrArg some z.symm)
        subst this
        rw [← ei, ← ej]
      · rw [if_neg z] at hy'
        cases hy')
    rw [List.nil_append, e]
    simp only [mk, sRet, sRetN, sSeq, sNx, sIf, sSet, sSetO, sEx, xU, xF, xB, xCons, xNil, xV, xC, xMv, st0, opt, looks, look, frz, frzs, isiG, tyG, clsG, clssG, O.toD, xAnd, xOr, xNot, xIf, xIfO, xT, xTO, xNotT, xAndT, xOrT, xIfT, xYes, xOp, xUn, xTup, xLst, xCh, xLc, xDc, iA, itemsD, gN, gT, gsC, gsN, sFor, sAsg, isB, iiG0, lenG, listG, tupG, leG, ltG, geG, gtG, intG, Ps.wp, wipeO, xP, xE, cP, cE, isSc, List.map_cons, List.map_nil, List.cons_append, List.nil_append, List.length_cons, List.length_nil, List.getElem?_cons_zero, List.getElem?_cons_succ, List.replicate, List.set_cons_zero, List.set_cons_succ, Nat.reduceSub, Nat.reduceAdd, if_true, if_false, Bool.false_eq_true, reduceCtorEq, truD, Bool.not_true, Bool.not_false, Option.map_some, at0, at1, at2, eqI, neI, true_and, and_true, implies_true, ne_eq, not_false_eq_true, Nat.reduceEqDiff, ix0L]
    exact h
theorem fm_find {α : Type} {p : α → Bool} : ∀ {xs : List α} (k : Nat), (∃ x ∈ xs, p x = true) → ∃ rest, (List.range xs.length).filterMap (fun i => if (xs[i]?.map p) = some true then some (k + i) else none) = (k + xs.findIdx p) :: rest
  | [], _, h => by obtain ⟨x, hx, _⟩ := h; exact absurd hx List.not_mem_nil
  | x :: xs, k, h => by
    rw [List.length_cons, List.range_succ_eq_map, List.filterMap_cons, List.findIdx_cons]
    cases e : p x with
    | true => exact ⟨_, by simp [e]; rfl⟩
    | false =>
      obtain ⟨y, hy, ey⟩ := h
      have hy' : y ∈ xs := (List.mem_cons.mp hy).resolve_left fun z => by rw [z, e] at ey; cases ey
      obtain ⟨rest, er⟩ := fm_find (xs := xs) (k + 1) ⟨y, hy', ey⟩
      refine ⟨rest, ?_⟩
      simp only [List.getElem?_cons_zero, Option.map_some, e, Option.some.injEq, Bool.false_eq_true, if_false, cond_false]
      rw [List.filterMap_map, show k + (List.findIdx p xs + 1) = k + 1 + List.findIdx p xs by omega, ← er]
      refine fm_congr fun i _ => ?_
      simp only [Function.comp, List.getElem?_cons_succ, Nat.succ_eq_add_one]
      rw [show k + (i + 1) = k + 1 + i by omega]
theorem w_spot (g : GoodS sc) (ht : t ∈ sc) {c : Str} (hc : c ∈ t.2.map (·.1)) (h : Q (.d (.int ((ixOf t.2 c : Nat) : Int))) S) : m__law_spot K cs [scD sc, .str t.1, .str c] E S Q := by
  have gt := g.t _ ht
  have l3 := gt.l3
  unfold m__law_spot b__law_spot
  simp only [mk, st0, List.map_cons, List.map_nil, List.cons_append, List.nil_append, List.length_cons, List.length_nil, Nat.reduceSub, Nat.reduceAdd, List.replicate]
  refine seq_go fun N1 h1 => ?_
  simp only [mk, sRet, sRetN, sSeq, sNx, sIf, sSet, sSetO, sEx, xU, xF, xB, xCons, xNil, xV, xC, xMv, st0, opt, looks, look, frz, frzs, isiG, tyG, clsG, clssG, O.toD, xAnd, xOr, xNot, xIf, xIfO, xT, xTO, xNotT, xAndT, xOrT, xIfT, xYes, xOp, xUn, xTup, xLst, xCh, xLc, xDc, iA, itemsD, gN, gT, gsC, gsN, sFor, sAsg, isB, iiG0, lenG, listG, tupG, leG, ltG, geG, gtG, intG, Ps.wp, wipeO, xP, xE, cP, cE, isSc, List.map_cons, List.map_nil, List.cons_append, List.nil_append, List.length_cons, List.length_nil, List.getElem?_cons_zero, List.getElem?_cons_succ, List.replicate, List.set_cons_zero, List.set_cons_succ, Nat.reduceSub, Nat.reduceAdd, if_true, if_false, Bool.false_eq_true, reduceCtorEq, truD, Bool.not_true, Bool.not_false, Option.map_some, at0, at1, at2, eqI, neI, true_and, and_true, implies_true, ne_eq, not_false_eq_true, Nat.reduceEqDiff, Bool.not_true]
  refine w_columns_of g ht ?_
  simp only [mk, sRet, sRetN, sSeq, sNx, sIf, sSet, sSetO, sEx, xU, xF, xB, xCons, xNil, xV, xC, xMv, st0, opt, looks, look, frz, frzs, isiG, tyG, clsG, clssG, O.toD, xAnd, xOr, xNot, xIf, xIfO, xT, xTO, xNotT, xAndT, xOrT, xIfT, xYes, xOp, xUn, xTup, xLst, xCh, xLc, xDc, iA, itemsD, gN, gT, gsC, gsN, sFor, sAsg, isB, iiG0, lenG, listG, tupG, leG, ltG, geG, gtG, intG, Ps.wp, wipeO, xP, xE, cP, cE, isSc, List.map_cons, List.map_nil, List.cons_append, List.nil_append, List.length_cons, List.length_nil, List.getElem?_cons_zero, List.getElem?_cons_succ, List.replicate, List.set_cons_zero, List.set_cons_succ, Nat.reduceSub, Nat.reduceAdd, if_true, if_false, Bool.false_eq_true, reduceCtorEq, truD, Bool.not_true, Bool.not_false, Option.map_some, at0, at1, at2, eqI, neI, true_and, and_true, implies_true, ne_eq, not_false_eq_true, Nat.reduceEqDiff, Bool.not_true]
  refine h1 _ ?_
  simp only [mk, sRet, sRetN, sSeq, sNx, sIf, sSet, sSetO, sEx, xU, xF, xB, xCons, xNil, xV, xC, xMv, st0, opt, looks, look, frz, frzs, isiG, tyG, clsG, clssG, O.toD, xAnd, xOr, xNot, xIf, xIfO, xT, xTO, xNotT, xAndT, xOrT, xIfT, xYes, xOp, xUn, xTup, xLst, xCh, xLc, xDc, iA, itemsD, gN, gT, gsC, gsN, sFor, sAsg, isB, iiG0, lenG, listG, tupG, leG, ltG, geG, gtG, intG, Ps.wp, wipeO, xP, xE, cP, cE, isSc, List.map_cons, List.map_nil, List.cons_append, List.nil_append, List.length_cons, List.length_nil, List.getElem?_cons_zero, List.getElem?_cons_succ, List.replicate, List.set_cons_zero, List.set_cons_succ, Nat.reduceSub, Nat.reduceAdd, if_true, if_false, Bool.false_eq_true, reduceCtorEq, truD, Bool.not_true, Bool.not_false, Option.map_some, at0, at1, at2, eqI, neI, true_and, and_true, implies_true, ne_eq, not_false_eq_true, Nat.reduceEqDiff, iR1, List.length_map]
  refine ⟨⟨by omega, by omega⟩, ?_⟩
  have hcw : PyData.strOk c = true := by
    obtain ⟨c', h', rfl⟩ := List.mem_map.mp hc
    exact word_ok (gt.c _ h').w
  refine lcW_pure (st0 := ⟨[.d (scD sc), .d (.str t.1), .d (.str c), .d (.lst (t.2.map colD)), .un], S, false, false⟩) (fun d => match d with | .int i => if (t.2[i.toNat]?.map fun x => decide (x.1 = c)) = some true then some (.int i) else none | _ => none) _ _ _ rfl ?_ ?_ ?_
  · rw [rng_len, sizeLine_eq, List.length_nil]; omega
  · intro d hd R1 R0 hR
    obtain ⟨i, hi, rfl⟩ := rng_mem hd
    have e1 : ixD (.lst (t.2.map colD)) (.int (i : Int)) = some (.d (colD t.2[i])) := by
      show (atI _ _).map O.d = _
      rw [atI_nat (v := colD t.2[i]) (by rw [List.getElem?_map, List.getElem?_eq_getElem hi]; rfl)]
      rfl
    have e2 : ixD (colD t.2[i]) (.int 0) = some (.d (.str t.2[i].1)) := by
      simp only [colD, ixD, at0, Option.map_some]
    have hR' := hR ⟨[.d (scD sc), .d (.str t.1), .d (.str c), .d (.lst (t.2.map colD)), .d (.int (i : Int))], S, false, false⟩ rfl
    have hx := word_ok (gt.c _ (List.getElem_mem hi)).w
    simp only [Int.toNat_natCast, List.getElem?_eq_getElem hi, Option.map_some] at hR'
    simp only [mk, sRet, sRetN, sSeq, sNx, sIf, sSet, sSetO, sEx, xU, xF, xB, xCons, xNil, xV, xC, xMv, st0, opt, looks, look, frz, frzs, isiG, tyG, clsG, clssG, O.toD, xAnd, xOr, xNot, xIf, xIfO, xT, xTO, xNotT, xAndT, xOrT, xIfT, xYes, xOp, xUn, xTup, xLst, xCh, xLc, xDc, iA, itemsD, gN, gT, gsC, gsN, sFor, sAsg, isB, iiG0, lenG, listG, tupG, leG, ltG, geG, gtG, intG, Ps.wp, wipeO, xP, xE, cP, cE, isSc, List.map_cons, List.map_nil, List.cons_append, List.nil_append, List.length_cons, List.length_nil, List.getElem?_cons_zero, List.getElem?_cons_succ, List.replicate, List.set_cons_zero, List.set_cons_succ, Nat.reduceSub, Nat.reduceAdd, if_true, if_false, Bool.false_eq_true, reduceCtorEq, truD, Bool.not_true, Bool.not_false, Option.map_some, at0, at1, at2, eqI, neI, true_and, and_true, implies_true, ne_eq, not_false_eq_true, Nat.reduceEqDiff, e1, e2, eqS hx hcw]
    by_cases z : t.2[i].1 = c
    · simp only [z, decide_true, if_true] at hR' ⊢
      exact hR'
    · simp only [z, decide_false, if_false, Bool.false_eq_true, Option.some.injEq] at hR' ⊢
      exact hR'
  · obtain ⟨rest, e⟩ := fm_find (p := fun x : Col => decide (x.1 = c)) (xs := t.2) 0 (by obtain ⟨c', h', e'⟩ := List.mem_map.mp hc; exact ⟨c', h', decide_eq_true e'⟩)
    have e3 : (rngD 0 ((t.2.length : Nat) : Int).toNat).filterMap (fun d => match d with | .int i => if (t.2[i.toNat]?.map fun x => decide (x.1 = c)) = some true then some (D.int i) else none | _ => none) = ((List.range t.2.length).filterMap (fun i => if (t.2[i]?.map fun x => decide (x.1 = c)) = some true then some (0 + i) else none)).map fun k => D.int ((k : Nat) : Int) := by
      unfold rngD
      rw [List.filterMap_map, Int.toNat_natCast, List.map_filterMap]
      refine fm_congr fun i _ => ?_
      simp only [Function.comp, Int.zero_add, Int.toNat_natCast, Nat.zero_add]
      split <;> rfl
    rw [List.nil_append, e3, e, List.map_cons, Nat.zero_add]
    simp only [mk, sRet, sRetN, sSeq, sNx, sIf, sSet, sSetO, sEx, xU, xF, xB, xCons, xNil, xV, xC, xMv, st0, opt, looks, look, frz, frzs, isiG, tyG, clsG, clssG, O.toD, xAnd, xOr, xNot, xIf, xIfO, xT, xTO, xNotT, xAndT, xOrT, xIfT, xYes, xOp, xUn, xTup, xLst, xCh, xLc, xDc, iA, itemsD, gN, gT, gsC, gsN, sFor, sAsg, isB, iiG0, lenG, listG, tupG, leG, ltG, geG, gtG, intG, Ps.wp, wipeO, xP, xE, cP, cE, isSc, List.map_cons, List.map_nil, List.cons_append, List.nil_append, List.length_cons, List.length_nil, List.getElem?_cons_zero, List.getElem?_cons_succ, List.replicate, List.set_cons_zero, List.set_cons_succ, Nat.reduceSub, Nat.reduceAdd, if_true, if_false, Bool.false_eq_true, reduceCtorEq, truD, Bool.not_true, Bool.not_false, Option.map_some, at0, at1, at2, eqI, neI, true_and, and_true, implies_true, ne_eq, not_false_eq_true, Nat.reduceEqDiff, ix0L]
    exact h
end Q
namespace Q
open PySem L2 PySem.Spec PyProof.Rows
variable {K : PySem.W.Frag} {cs : Cs} {E : EF} {S : List Cell} {Q : O → List Cell → Prop} {J : O → Prop} {t : Tab} {sc : List Tab}
theorem eq_nil_strs {xs : List Str} (hx : ∀ x ∈ xs, PyData.strOk x = true) : eqG (.lst (xs.map D.str)) (.lst []) = some (.d (.bl xs.isEmpty)) := by
  have e : eqP (.lst (xs.map D.str)) (.lst []) = some xs.isEmpty := by
    unfold eqP
    simp only [toP, toPs_strs, toPs]
    rw [shaped_strs hx, show SeqAt.shaped (.list []) = true by decide +kernel, Bool.and_self, if_pos rfl, eqv_nil]
    cases xs <;> rfl
  unfold eqG
  rw [e]
theorem lets_val {ls : List (Str × Lt)} (nd : (ls.map (·.1)).Nodup) {p : Str × Lt} (hp : p ∈ ls) : valD (letsK ls) (Sum.inr p.1 : Key) = some p.2.d := by
  refine valD_of ?_ (List.mem_map.mpr ⟨p, hp, rfl⟩)
  unfold letsK
  rw [List.map_map]
  have := nd_inr nd
  rw [List.map_map] at this
  exact this
theorem w_row_fits (g : GoodS sc) (ht : t ∈ sc) {r : List Str} (hr : rowOk t.2 r) {ls : List (Str × Lt)} (ok : LetsOk t.2 ls) (nd : (ls.map (·.1)).Nodup) (hw : ∀ p ∈ ls, ∀ s, p.2 ≠ .w s) (hl : ls.length ≤ 1000) (h : Q (.d (.bl (fitB t.2 r ls))) S) : m__law_row_fits K cs [scD sc, .str t.1, rowD r, .dK (letsK ls)] E S Q := by
  have gt := g.t _ ht
  unfold m__law_row_fits b__law_row_fits
  simp only [mk, sRet, sRetN, sSeq, sNx, sIf, sSet, sSetO, sEx, xU, xF, xB, xCons, xNil, xV, xC, xMv, st0, opt, looks, look, frz, frzs, isiG, tyG, clsG, clssG, O.toD, xAnd, xOr, xNot, xIf, xIfO, xT, xTO, xNotT, xAndT, xOrT, xIfT, xYes, xOp, xUn, xTup, xLst, xCh, xLc, xDc, iA, itemsD, gN, gT, gsC, gsN, sFor, sAsg, isB, iiG0, lenG, listG, tupG, leG, ltG, geG, gtG, intG, Ps.wp, wipeO, xP, xE, cP, cE, isSc, List.map_cons, List.map_nil, List.cons_append, List.nil_append, List.length_cons, List.length_nil, List.getElem?_cons_zero, List.getElem?_cons_succ, List.replicate, List.set_cons_zero, List.set_cons_succ, Nat.reduceSub, Nat.reduceAdd, if_true, if_false, Bool.false_eq_true, reduceCtorEq, truD, Bool.not_true, Bool.not_false, Option.map_some, at0, at1, at2, eqI, neI, true_and, and_true, implies_true, ne_eq, not_false_eq_true, Nat.reduceEqDiff, Bool.not_true]
  have el : (letsK ls).map (fun kv => kD kv.1) = (ls.map (·.1)).map D.str := by
    unfold letsK
    rw [List.map_map, List.map_map]
    rfl
  rw [el]
  refine lcW_pure (st0 := ⟨[.d (scD sc), .d (.str t.1), .d (rowD r), .d (.dK (letsK ls)), .un], S, false, false⟩) (fun d => match d with | .str c => if (ls.any fun p => decide (p.1 = c) && !decide (ent t.2 r p.1 ∈ p.2.ws)) = true then some (.str c) else none | _ => none) _ _ _ rfl ?_ ?_ ?_
  · rw [List.length_map, List.length_map, sizeLine_eq, List.length_nil]; omega
  · intro d hd R1 R0 hR
    obtain ⟨c, hc, rfl⟩ := List.mem_map.mp hd
    obtain ⟨p, hp, rfl⟩ := List.mem_map.mp hc
    have hcc := ok.c p hp
    have hg := ent_get (rowOk_len hr) hcc
    have hwd : PyData.strOk (ent t.2 r p.1) = true := word_ok (rowOk_words hr _ (List.mem_of_getElem? hg))
    have e4 : ixD (rowD r) (.int ((ixOf t.2 p.1 : Nat) : Int)) = some (.d (.str (ent t.2 r p.1))) := by
      unfold rowD
      show (atI _ _).map O.d = _
      rw [atI_nat (v := D.str (ent t.2 r p.1)) (by rw [List.getElem?_map, hg]; rfl)]
      rfl
    have ea : (ls.any fun p' => decide (p'.1 = p.1) && !decide (ent t.2 r p'.1 ∈ p'.2.ws)) = !decide (ent t.2 r p.1 ∈ p.2.ws) := by
      cases z : decide (ent t.2 r p.1 ∈ p.2.ws) with
      | false => exact List.any_eq_true.mpr ⟨p, hp, by rw [z, decide_eq_true rfl]; rfl⟩
      | true =>
        refine List.any_eq_false.mpr fun p' hp' y => ?_
        rw [Bool.and_eq_true] at y
        have e1 := of_decide_eq_true y.1
        have : some p'.2.d = some p.2.d := by rw [← lets_val nd hp', ← lets_val nd hp, e1]
        obtain ⟨i, hi, ei⟩ := List.getElem_of_mem hp
        obtain ⟨j, hj, ej⟩ := List.getElem_of_mem hp'
        have : i = j := (List.getElem?_inj (by rw [List.length_map]; exact hi) nd).mp (by rw [List.getElem?_map, List.getElem?_map, List.getElem?_eq_getElem hi, List.getElem?_eq_getElem hj, ei, ej]; exact congrArg some e1.symm)
        subst this
        have : p' = p := by rw [← ei, ← ej]
        rw [this, z] at y
        cases y.2
    have hR' := hR ⟨[.d (scD sc), .d (.str t.1), .d (rowD r), .d (.dK (letsK ls)), .d (.str p.1)], S, false, false⟩ rfl
    simp only [ea] at hR'
    simp only [mk, sRet, sRetN, sSeq, sNx, sIf, sSet, sSetO, sEx, xU, xF, xB, xCons, xNil, xV, xC, xMv, st0, opt, looks, look, frz, frzs, isiG, tyG, clsG, clssG, O.toD, xAnd, xOr, xNot, xIf, xIfO, xT, xTO, xNotT, xAndT, xOrT, xIfT, xYes, xOp, xUn, xTup, xLst, xCh, xLc, xDc, iA, itemsD, gN, gT, gsC, gsN, sFor, sAsg, isB, iiG0, lenG, listG, tupG, leG, ltG, geG, gtG, intG, Ps.wp, wipeO, xP, xE, cP, cE, isSc, List.map_cons, List.map_nil, List.cons_append, List.nil_append, List.length_cons, List.length_nil, List.getElem?_cons_zero, List.getElem?_cons_succ, List.replicate, List.set_cons_zero, List.set_cons_succ, Nat.reduceSub, Nat.reduceAdd, if_true, if_false, Bool.false_eq_true, reduceCtorEq, truD, Bool.not_true, Bool.not_false, Option.map_some, at0, at1, at2, eqI, neI, true_and, and_true, implies_true, ne_eq, not_false_eq_true, Nat.reduceEqDiff, Bool.not_true]
    refine w_spot g ht hcc ?_
    simp only [mk, sRet, sRetN, sSeq, sNx, sIf, sSet, sSetO, sEx, xU, xF, xB, xCons, xNil, xV, xC, xMv, st0, opt, looks, look, frz, frzs, isiG, tyG, clsG, clssG, O.toD, xAnd, xOr, xNot, xIf, xIfO, xT, xTO, xNotT, xAndT, xOrT, xIfT, xYes, xOp, xUn, xTup, xLst, xCh, xLc, xDc, iA, itemsD, gN, gT, gsC, gsN, sFor, sAsg, isB, iiG0, lenG, listG, tupG, leG, ltG, geG, gtG, intG, Ps.wp, wipeO, xP, xE, cP, cE, isSc, List.map_cons, List.map_nil, List.cons_append, List.nil_append, List.length_cons, List.length_nil, List.getElem?_cons_zero, List.getElem?_cons_succ, List.replicate, List.set_cons_zero, List.set_cons_succ, Nat.reduceSub, Nat.reduceAdd, if_true, if_false, Bool.false_eq_true, reduceCtorEq, truD, Bool.not_true, Bool.not_false, Option.map_some, at0, at1, at2, eqI, neI, true_and, and_true, implies_true, ne_eq, not_false_eq_true, Nat.reduceEqDiff, e4, dgG_dK (lets_val nd hp)]
    have fin : ∀ d, p.2.d = d → inG true (.str (ent t.2 r p.1)) d = some (.d (.bl (!decide (ent t.2 r p.1 ∈ p.2.ws)))) := by
      intro d e
      subst e
      cases q : p.2 with
      | w s => exact absurd q (hw p hp s)
      | l ss => exact inG_lst true hwd (by have := ok.w p hp; rw [q] at this; exact this)
      | t ss => exact inG_tup true
    rw [fin _ rfl]
    simp only [mk, sRet, sRetN, sSeq, sNx, sIf, sSet, sSetO, sEx, xU, xF, xB, xCons, xNil, xV, xC, xMv, st0, opt, looks, look, frz, frzs, isiG, tyG, clsG, clssG, O.toD, xAnd, xOr, xNot, xIf, xIfO, xT, xTO, xNotT, xAndT, xOrT, xIfT, xYes, xOp, xUn, xTup, xLst, xCh, xLc, xDc, iA, itemsD, gN, gT, gsC, gsN, sFor, sAsg, isB, iiG0, lenG, listG, tupG, leG, ltG, geG, gtG, intG, Ps.wp, wipeO, xP, xE, cP, cE, isSc, List.map_cons, List.map_nil, List.cons_append, List.nil_append, List.length_cons, List.length_nil, List.getElem?_cons_zero, List.getElem?_cons_succ, List.replicate, List.set_cons_zero, List.set_cons_succ, Nat.reduceSub, Nat.reduceAdd, if_true, if_false, Bool.false_eq_true, reduceCtorEq, truD, Bool.not_true, Bool.not_false, Option.map_some, at0, at1, at2, eqI, neI, true_and, and_true, implies_true, ne_eq, not_false_eq_true, Nat.reduceEqDiff, Bool.not_true]
    by_cases z : ent t.2 r p.1 ∈ p.2.ws
    · simp only [z, decide_true, Bool.not_true, Bool.false_eq_true, if_false] at hR' ⊢
      exact hR'
    · simp only [z, decide_false, Bool.not_false, if_true] at hR' ⊢
      exact hR'
  · have e5 : ((ls.map (·.1)).map D.str).filterMap (fun d => match d with | .str c => if (ls.any fun p => decide (p.1 = c) && !decide (ent t.2 r p.1 ∈ p.2.ws)) = true then some (D.str c) else none | _ => none) = ((ls.map (·.1)).filter fun c => ls.any fun p => decide (p.1 = c) && !decide (ent t.2 r p.1 ∈ p.2.ws)).map D.str := by
      generalize ls.map (·.1) = xs
      induction xs with
      | nil => rfl
      | cons x xs ih =>
        rw [List.map_cons, List.filterMap_cons, List.filter_cons]
        cases z : (ls.any fun p => decide (p.1 = x) && !decide (ent t.2 r p.1 ∈ p.2.ws)) with
        | true => simp only [z, if_true, ih, List.map_cons]
        | false => simp only [z, Bool.false_eq_true, if_false, ih]
    rw [List.nil_append, e5]
    have ho : ∀ x ∈ (ls.map (·.1)).filter fun c => ls.any fun p => decide (p.1 = c) && !decide (ent t.2 r p.1 ∈ p.2.ws), PyData.strOk x = true := by
      intro x hx
      obtain ⟨p, hp, rfl⟩ := List.mem_map.mp (List.mem_filter.mp hx).1
      obtain ⟨c', h', e'⟩ := List.mem_map.mp (ok.c p hp)
      rw [← e']
      exact word_ok (gt.c _ h').w
    simp only [mk, sRet, sRetN, sSeq, sNx, sIf, sSet, sSetO, sEx, xU, xF, xB, xCons, xNil, xV, xC, xMv, st0, opt, looks, look, frz, frzs, isiG, tyG, clsG, clssG, O.toD, xAnd, xOr, xNot, xIf, xIfO, xT, xTO, xNotT, xAndT, xOrT, xIfT, xYes, xOp, xUn, xTup, xLst, xCh, xLc, xDc, iA, itemsD, gN, gT, gsC, gsN, sFor, sAsg, isB, iiG0, lenG, listG, tupG, leG, ltG, geG, gtG, intG, Ps.wp, wipeO, xP, xE, cP, cE, isSc, List.map_cons, List.map_nil, List.cons_append, List.nil_append, List.length_cons, List.length_nil, List.getElem?_cons_zero, List.getElem?_cons_succ, List.replicate, List.set_cons_zero, List.set_cons_succ, Nat.reduceSub, Nat.reduceAdd, if_true, if_false, Bool.false_eq_true, reduceCtorEq, truD, Bool.not_true, Bool.not_false, Option.map_some, at0, at1, at2, eqI, neI, true_and, and_true, implies_true, ne_eq, not_false_eq_true, Nat.reduceEqDiff, eq_nil_strs ho]
    refine ⟨sizeLine_le (by decide), ?_⟩
    have ef : ((ls.map (·.1)).filter fun c => ls.any fun p => decide (p.1 = c) && !decide (ent t.2 r p.1 ∈ p.2.ws)).isEmpty = fitB t.2 r ls := by
      unfold fitB
      rw [Bool.eq_iff_iff, List.isEmpty_iff, List.filter_eq_nil_iff, List.all_eq_true]
      constructor
      · intro hh p hp
        have := hh p.1 (List.mem_map.mpr ⟨p, hp, rfl⟩)
        cases z : decide (ent t.2 r p.1 ∈ p.2.ws) with
        | true => rfl
        | false => exact absurd (List.any_eq_true.mpr ⟨p, hp, by rw [z, decide_eq_true rfl]; rfl⟩) this
      · intro hh c hc z
        obtain ⟨p, hp, y⟩ := List.any_eq_true.mp z
        rw [hh p hp] at y
        rw [Bool.not_true, Bool.and_false] at y
        cases y
    rw [ef]
    exact h
end Q
namespace Q
open PySem L2 PySem.Spec PyProof.Rows
variable {K : PySem.W.Frag} {cs : Cs} {E : EF} {S : List Cell} {Q : O → List Cell → Prop} {J : O → Prop} {t : Tab} {sc : List Tab}
theorem w_made_table (fk : Fk K cs) (g : GoodT t) (h : Q (.d (tabD cs t)) S) : m__law_made_table K cs [plD t] E S Q := by
  have l1 := g.l1
  have l3 := g.l3
  unfold m__law_made_table b__law_made_table
  simp only [mk, st0, List.map_cons, List.map_nil, List.cons_append, List.nil_append, List.length_cons, List.length_nil, Nat.reduceSub, Nat.reduceAdd, List.replicate]
  refine seq_go fun N1 h1 => ?_
  simp only [mk, sRet, sRetN, sSeq, sNx, sIf, sSet, sSetO, sEx, xU, xF, xB, xCons, xNil, xV, xC, xMv, st0, opt, looks, look, frz, frzs, isiG, tyG, clsG, clssG, O.toD, xAnd, xOr, xNot, xIf, xIfO, xT, xTO, xNotT, xAndT, xOrT, xIfT, xYes, xOp, xUn, xTup, xLst, xCh, xLc, xDc, iA, itemsD, gN, gT, gsC, gsN, sFor, sAsg, isB, iiG0, lenG, listG, tupG, leG, ltG, geG, gtG, intG, Ps.wp, wipeO, xP, xE, cP, cE, isSc, List.map_cons, List.map_nil, List.cons_append, List.nil_append, List.length_cons, List.length_nil, List.getElem?_cons_zero, List.getElem?_cons_succ, List.replicate, List.set_cons_zero, List.set_cons_succ, Nat.reduceSub, Nat.reduceAdd, if_true, if_false, Bool.false_eq_true, reduceCtorEq, truD, Bool.not_true, Bool.not_false, Option.map_some, at0, at1, at2, eqI, neI, true_and, and_true, implies_true, ne_eq, not_false_eq_true, Nat.reduceEqDiff, plD]
  refine h1 _ (seq_go fun N2 h2 => ?_)
  simp only [mk, sRet, sRetN, sSeq, sNx, sIf, sSet, sSetO, sEx, xU, xF, xB, xCons, xNil, xV, xC, xMv, st0, opt, looks, look, frz, frzs, isiG, tyG, clsG, clssG, O.toD, xAnd, xOr, xNot, xIf, xIfO, xT, xTO, xNotT, xAndT, xOrT, xIfT, xYes, xOp, xUn, xTup, xLst, xCh, xLc, xDc, iA, itemsD, gN, gT, gsC, gsN, sFor, sAsg, isB, iiG0, lenG, listG, tupG, leG, ltG, geG, gtG, intG, Ps.wp, wipeO, xP, xE, cP, cE, isSc, List.map_cons, List.map_nil, List.cons_append, List.nil_append, List.length_cons, List.length_nil, List.getElem?_cons_zero, List.getElem?_cons_succ, List.replicate, List.set_cons_zero, List.set_cons_succ, Nat.reduceSub, Nat.reduceAdd, if_true, if_false, Bool.false_eq_true, reduceCtorEq, truD, Bool.not_true, Bool.not_false, Option.map_some, at0, at1, at2, eqI, neI, true_and, and_true, implies_true, ne_eq, not_false_eq_true, Nat.reduceEqDiff, Bool.not_true]
  refine lcW_pure (st0 := ⟨[.d (.tup [.str t.1, .lst (t.2.map colD)]), .un, .d (.str t.1), .d (.lst (t.2.map colD)), .un, .un], S, false, false⟩) (fun d => match d with | .tup [.str c, .non] => some (.str c) | .tup [.str c, .tup ms] => some (.tup [.str c, .lst ms]) | _ => none) _ _ _ rfl ?_ ?_ ?_
  · rw [List.length_map, sizeLine_eq, List.length_nil]; omega
  · intro d hd R1 R0 hR
    obtain ⟨⟨c, o⟩, hx, rfl⟩ := List.mem_map.mp hd
    cases o with
    | none =>
      have hR' := hR ⟨[.d (.tup [.str t.1, .lst (t.2.map colD)]), .un, .d (.str t.1), .d (.lst (t.2.map colD)), .d (.str c), .d .non], S, false, false⟩ rfl
      simp only [mk, sRet, sRetN, sSeq, sNx, sIf, sSet, sSetO, sEx, xU, xF, xB, xCons, xNil, xV, xC, xMv, st0, opt, looks, look, frz, frzs, isiG, tyG, clsG, clssG, O.toD, xAnd, xOr, xNot, xIf, xIfO, xT, xTO, xNotT, xAndT, xOrT, xIfT, xYes, xOp, xUn, xTup, xLst, xCh, xLc, xDc, iA, itemsD, gN, gT, gsC, gsN, sFor, sAsg, isB, iiG0, lenG, listG, tupG, leG, ltG, geG, gtG, intG, Ps.wp, wipeO, xP, xE, cP, cE, isSc, List.map_cons, List.map_nil, List.cons_append, List.nil_append, List.length_cons, List.length_nil, List.getElem?_cons_zero, List.getElem?_cons_succ, List.replicate, List.set_cons_zero, List.set_cons_succ, Nat.reduceSub, Nat.reduceAdd, if_true, if_false, Bool.false_eq_true, reduceCtorEq, truD, Bool.not_true, Bool.not_false, Option.map_some, at0, at1, at2, eqI, neI, true_and, and_true, implies_true, ne_eq, not_false_eq_true, Nat.reduceEqDiff, colD, mkD, isNG]
      exact hR'
    | some ms =>
      have hR' := hR ⟨[.d (.tup [.str t.1, .lst (t.2.map colD)]), .un, .d (.str t.1), .d (.lst (t.2.map colD)), .d (.str c), .d (.tup (ms.map D.str))], S, false, false⟩ rfl
      simp only [mk, sRet, sRetN, sSeq, sNx, sIf, sSet, sSetO, sEx, xU, xF, xB, xCons, xNil, xV, xC, xMv, st0, opt, looks, look, frz, frzs, isiG, tyG, clsG, clssG, O.toD, xAnd, xOr, xNot, xIf, xIfO, xT, xTO, xNotT, xAndT, xOrT, xIfT, xYes, xOp, xUn, xTup, xLst, xCh, xLc, xDc, iA, itemsD, gN, gT, gsC, gsN, sFor, sAsg, isB, iiG0, lenG, listG, tupG, leG, ltG, geG, gtG, intG, Ps.wp, wipeO, xP, xE, cP, cE, isSc, List.map_cons, List.map_nil, List.cons_append, List.nil_append, List.length_cons, List.length_nil, List.getElem?_cons_zero, List.getElem?_cons_succ, List.replicate, List.set_cons_zero, List.set_cons_succ, Nat.reduceSub, Nat.reduceAdd, if_true, if_false, Bool.false_eq_true, reduceCtorEq, truD, Bool.not_true, Bool.not_false, Option.map_some, at0, at1, at2, eqI, neI, true_and, and_true, implies_true, ne_eq, not_false_eq_true, Nat.reduceEqDiff, colD, mkD, isNG]
      exact ⟨sizeLine_le (by decide), hR'⟩
  have e : (t.2.map colD).filterMap (fun d => match d with | .tup [.str c, .non] => some (D.str c) | .tup [.str c, .tup ms] => some (.tup [.str c, .lst ms]) | _ => none) = t.2.map argD := by
    rw [List.filterMap_map]
    refine fm_all fun c _ => ?_
    obtain ⟨c, o⟩ := c
    cases o <;> rfl
  rw [List.nil_append, e]
  simp only [mk, sRet, sRetN, sSeq, sNx, sIf, sSet, sSetO, sEx, xU, xF, xB, xCons, xNil, xV, xC, xMv, st0, opt, looks, look, frz, frzs, isiG, tyG, clsG, clssG, O.toD, xAnd, xOr, xNot, xIf, xIfO, xT, xTO, xNotT, xAndT, xOrT, xIfT, xYes, xOp, xUn, xTup, xLst, xCh, xLc, xDc, iA, itemsD, gN, gT, gsC, gsN, sFor, sAsg, isB, iiG0, lenG, listG, tupG, leG, ltG, geG, gtG, intG, Ps.wp, wipeO, xP, xE, cP, cE, isSc, List.map_cons, List.map_nil, List.cons_append, List.nil_append, List.length_cons, List.length_nil, List.getElem?_cons_zero, List.getElem?_cons_succ, List.replicate, List.set_cons_zero, List.set_cons_succ, Nat.reduceSub, Nat.reduceAdd, if_true, if_false, Bool.false_eq_true, reduceCtorEq, truD, Bool.not_true, Bool.not_false, Option.map_some, at0, at1, at2, eqI, neI, true_and, and_true, implies_true, ne_eq, not_false_eq_true, Nat.reduceEqDiff, Bool.not_true]
  refine h2 _ (seq_go fun N3 h3 => ?_)
  obtain ⟨n, cols⟩ := t
  dsimp only at *
  match cols, l1, l3, g, h, h3 with
  | [a], _, _, g, h, h3 =>
    have ed : decide (((1 : Nat) : Int) = 1) = true := by decide
    simp only [mk, sRet, sRetN, sSeq, sNx, sIf, sSet, sSetO, sEx, xU, xF, xB, xCons, xNil, xV, xC, xMv, st0, opt, looks, look, frz, frzs, isiG, tyG, clsG, clssG, O.toD, xAnd, xOr, xNot, xIf, xIfO, xT, xTO, xNotT, xAndT, xOrT, xIfT, xYes, xOp, xUn, xTup, xLst, xCh, xLc, xDc, iA, itemsD, gN, gT, gsC, gsN, sFor, sAsg, isB, iiG0, lenG, listG, tupG, leG, ltG, geG, gtG, intG, Ps.wp, wipeO, xP, xE, cP, cE, isSc, List.map_cons, List.map_nil, List.cons_append, List.nil_append, List.length_cons, List.length_nil, List.getElem?_cons_zero, List.getElem?_cons_succ, List.replicate, List.set_cons_zero, List.set_cons_succ, Nat.reduceSub, Nat.reduceAdd, if_true, if_false, Bool.false_eq_true, reduceCtorEq, truD, Bool.not_true, Bool.not_false, Option.map_some, at0, at1, at2, eqI, neI, true_and, and_true, implies_true, ne_eq, not_false_eq_true, Nat.reduceEqDiff, ed]
    refine xMk_of [.str n, argD a] (evA_cons (fun _ z => by simp only [mk, sRet, sRetN, sSeq, sNx, sIf, sSet, sSetO, sEx, xU, xF, xB, xCons, xNil, xV, xC, xMv, st0, opt, looks, look, frz, frzs, isiG, tyG, clsG, clssG, O.toD, xAnd, xOr, xNot, xIf, xIfO, xT, xTO, xNotT, xAndT, xOrT, xIfT, xYes, xOp, xUn, xTup, xLst, xCh, xLc, xDc, iA, itemsD, gN, gT, gsC, gsN, sFor, sAsg, isB, iiG0, lenG, listG, tupG, leG, ltG, geG, gtG, intG, Ps.wp, wipeO, xP, xE, cP, cE, isSc, List.map_cons, List.map_nil, List.cons_append, List.nil_append, List.length_cons, List.length_nil, List.getElem?_cons_zero, List.getElem?_cons_succ, List.replicate, List.set_cons_zero, List.set_cons_succ, Nat.reduceSub, Nat.reduceAdd, if_true, if_false, Bool.false_eq_true, reduceCtorEq, truD, Bool.not_true, Bool.not_false, Option.map_some, at0, at1, at2, eqI, neI, true_and, and_true, implies_true, ne_eq, not_false_eq_true, Nat.reduceEqDiff, Bool.not_true]; exact z) (evA_cons (fun _ z => by simp only [mk, sRet, sRetN, sSeq, sNx, sIf, sSet, sSetO, sEx, xU, xF, xB, xCons, xNil, xV, xC, xMv, st0, opt, looks, look, frz, frzs, isiG, tyG, clsG, clssG, O.toD, xAnd, xOr, xNot, xIf, xIfO, xT, xTO, xNotT, xAndT, xOrT, xIfT, xYes, xOp, xUn, xTup, xLst, xCh, xLc, xDc, iA, itemsD, gN, gT, gsC, gsN, sFor, sAsg, isB, iiG0, lenG, listG, tupG, leG, ltG, geG, gtG, intG, Ps.wp, wipeO, xP, xE, cP, cE, isSc, List.map_cons, List.map_nil, List.cons_append, List.nil_append, List.length_cons, List.length_nil, List.getElem?_cons_zero, List.getElem?_cons_succ, List.replicate, List.set_cons_zero, List.set_cons_succ, Nat.reduceSub, Nat.reduceAdd, if_true, if_false, Bool.false_eq_true, reduceCtorEq, truD, Bool.not_true, Bool.not_false, Option.map_some, at0, at1, at2, eqI, neI, true_and, and_true, implies_true, ne_eq, not_false_eq_true, Nat.reduceEqDiff, ixD]; exact z) evA_nil)) (fun z => absurd z (by decide)) rfl fun x => ?_
    refine w_table_init fk g ?_
    exact h
  | [a, b], _, _, g, h, h3 =>
    have ed : decide (((2 : Nat) : Int) = 1) = false := by decide
    have ed2 : decide (((2 : Nat) : Int) = 2) = true := by decide
    simp only [mk, sRet, sRetN, sSeq, sNx, sIf, sSet, sSetO, sEx, xU, xF, xB, xCons, xNil, xV, xC, xMv, st0, opt, looks, look, frz, frzs, isiG, tyG, clsG, clssG, O.toD, xAnd, xOr, xNot, xIf, xIfO, xT, xTO, xNotT, xAndT, xOrT, xIfT, xYes, xOp, xUn, xTup, xLst, xCh, xLc, xDc, iA, itemsD, gN, gT, gsC, gsN, sFor, sAsg, isB, iiG0, lenG, listG, tupG, leG, ltG, geG, gtG, intG, Ps.wp, wipeO, xP, xE, cP, cE, isSc, List.map_cons, List.map_nil, List.cons_append, List.nil_append, List.length_cons, List.length_nil, List.getElem?_cons_zero, List.getElem?_cons_succ, List.replicate, List.set_cons_zero, List.set_cons_succ, Nat.reduceSub, Nat.reduceAdd, if_true, if_false, Bool.false_eq_true, reduceCtorEq, truD, Bool.not_true, Bool.not_false, Option.map_some, at0, at1, at2, eqI, neI, true_and, and_true, implies_true, ne_eq, not_false_eq_true, Nat.reduceEqDiff, ed]
    refine h3 _ ?_
    simp only [mk, sRet, sRetN, sSeq, sNx, sIf, sSet, sSetO, sEx, xU, xF, xB, xCons, xNil, xV, xC, xMv, st0, opt, looks, look, frz, frzs, isiG, tyG, clsG, clssG, O.toD, xAnd, xOr, xNot, xIf, xIfO, xT, xTO, xNotT, xAndT, xOrT, xIfT, xYes, xOp, xUn, xTup, xLst, xCh, xLc, xDc, iA, itemsD, gN, gT, gsC, gsN, sFor, sAsg, isB, iiG0, lenG, listG, tupG, leG, ltG, geG, gtG, intG, Ps.wp, wipeO, xP, xE, cP, cE, isSc, List.map_cons, List.map_nil, List.cons_append, List.nil_append, List.length_cons, List.length_nil, List.getElem?_cons_zero, List.getElem?_cons_succ, List.replicate, List.set_cons_zero, List.set_cons_succ, Nat.reduceSub, Nat.reduceAdd, if_true, if_false, Bool.false_eq_true, reduceCtorEq, truD, Bool.not_true, Bool.not_false, Option.map_some, at0, at1, at2, eqI, neI, true_and, and_true, implies_true, ne_eq, not_false_eq_true, Nat.reduceEqDiff, ed2]
    refine xMk_of [.str n, argD a, argD b] (evA_cons (fun _ z => by simp only [mk, sRet, sRetN, sSeq, sNx, sIf, sSet, sSetO, sEx, xU, xF, xB, xCons, xNil, xV, xC, xMv, st0, opt, looks, look, frz, frzs, isiG, tyG, clsG, clssG, O.toD, xAnd, xOr, xNot, xIf, xIfO, xT, xTO, xNotT, xAndT, xOrT, xIfT, xYes, xOp, xUn, xTup, xLst, xCh, xLc, xDc, iA, itemsD, gN, gT, gsC, gsN, sFor, sAsg, isB, iiG0, lenG, listG, tupG, leG, ltG, geG, gtG, intG, Ps.wp, wipeO, xP, xE, cP, cE, isSc, List.map_cons, List.map_nil, List.cons_append, List.nil_append, List.length_cons, List.length_nil, List.getElem?_cons_zero, List.getElem?_cons_succ, List.replicate, List.set_cons_zero, List.set_cons_succ, Nat.reduceSub, Nat.reduceAdd, if_true, if_false, Bool.false_eq_true, reduceCtorEq, truD, Bool.not_true, Bool.not_false, Option.map_some, at0, at1, at2, eqI, neI, true_and, and_true, implies_true, ne_eq, not_false_eq_true, Nat.reduceEqDiff, Bool.not_true]; exact z) (evA_cons (fun _ z => by simp only [mk, sRet, sRetN, sSeq, sNx, sIf, sSet, sSetO, sEx, xU, xF, xB, xCons, xNil, xV, xC, xMv, st0, opt, looks, look, frz, frzs, isiG, tyG, clsG, clssG, O.toD, xAnd, xOr, xNot, xIf, xIfO, xT, xTO, xNotT, xAndT, xOrT, xIfT, xYes, xOp, xUn, xTup, xLst, xCh, xLc, xDc, iA, itemsD, gN, gT, gsC, gsN, sFor, sAsg, isB, iiG0, lenG, listG, tupG, leG, ltG, geG, gtG, intG, Ps.wp, wipeO, xP, xE, cP, cE, isSc, List.map_cons, List.map_nil, List.cons_append, List.nil_append, List.length_cons, List.length_nil, List.getElem?_cons_zero, List.getElem?_cons_succ, List.replicate, List.set_cons_zero, List.set_cons_succ, Nat.reduceSub, Nat.reduceAdd, if_true, if_false, Bool.false_eq_true, reduceCtorEq, truD, Bool.not_true, Bool.not_false, Option.map_some, at0, at1, at2, eqI, neI, true_and, and_true, implies_true, ne_eq, not_false_eq_true, Nat.reduceEqDiff, ixD]; exact z) (evA_cons (fun _ z => by simp only [mk, sRet, sRetN, sSeq, sNx, sIf, sSet, sSetO, sEx, xU, xF, xB, xCons, xNil, xV, xC, xMv, st0, opt, looks, look, frz, frzs, isiG, tyG, clsG, clssG, O.toD, xAnd, xOr, xNot, xIf, xIfO, xT, xTO, xNotT, xAndT, xOrT, xIfT, xYes, xOp, xUn, xTup, xLst, xCh, xLc, xDc, iA, itemsD, gN, gT, gsC, gsN, sFor, sAsg, isB, iiG0, lenG, listG, tupG, leG, ltG, geG, gtG, intG, Ps.wp, wipeO, xP, xE, cP, cE, isSc, List.map_cons, List.map_nil, List.cons_append, List.nil_append, List.length_cons, List.length_nil, List.getElem?_cons_zero, List.getElem?_cons_succ, List.replicate, List.set_cons_zero, List.set_cons_succ, Nat.reduceSub, Nat.reduceAdd, if_true, if_false, Bool.false_eq_true, reduceCtorEq, truD, Bool.not_true, Bool.not_false, Option.map_some, at0, at1, at2, eqI, neI, true_and, and_true, implies_true, ne_eq, not_false_eq_true, Nat.reduceEqDiff, ixD]; exact z) evA_nil))) (fun z => absurd z (by decide)) rfl fun x => ?_
    refine w_table_init fk g ?_
    exact h
  | [a, b, c], _, _, g, h, h3 =>
    have ed : decide (((3 : Nat) : Int) = 1) = false := by decide
    have ed2 : decide (((3 : Nat) : Int) = 2) = false := by decide
    simp only [mk, sRet, sRetN, sSeq, sNx, sIf, sSet, sSetO, sEx, xU, xF, xB, xCons, xNil, xV, xC, xMv, st0, opt, looks, look, frz, frzs, isiG, tyG, clsG, clssG, O.toD, xAnd, xOr, xNot, xIf, xIfO, xT, xTO, xNotT, xAndT, xOrT, xIfT, xYes, xOp, xUn, xTup, xLst, xCh, xLc, xDc, iA, itemsD, gN, gT, gsC, gsN, sFor, sAsg, isB, iiG0, lenG, listG, tupG, leG, ltG, geG, gtG, intG, Ps.wp, wipeO, xP, xE, cP, cE, isSc, List.map_cons, List.map_nil, List.cons_append, List.nil_append, List.length_cons, List.length_nil, List.getElem?_cons_zero, List.getElem?_cons_succ, List.replicate, List.set_cons_zero, List.set_cons_succ, Nat.reduceSub, Nat.reduceAdd, if_true, if_false, Bool.false_eq_true, reduceCtorEq, truD, Bool.not_true, Bool.not_false, Option.map_some, at0, at1, at2, eqI, neI, true_and, and_true, implies_true, ne_eq, not_false_eq_true, Nat.reduceEqDiff, ed]
    refine h3 _ ?_
    simp only [mk, sRet, sRetN, sSeq, sNx, sIf, sSet, sSetO, sEx, xU, xF, xB, xCons, xNil, xV, xC, xMv, st0, opt, looks, look, frz, frzs, isiG, tyG, clsG, clssG, O.toD, xAnd, xOr, xNot, xIf, xIfO, xT, xTO, xNotT, xAndT, xOrT, xIfT, xYes, xOp, xUn, xTup, xLst, xCh, xLc, xDc, iA, itemsD, gN, gT, gsC, gsN, sFor, sAsg, isB, iiG0, lenG, listG, tupG, leG, ltG, geG, gtG, intG, Ps.wp, wipeO, xP, xE, cP, cE, isSc, List.map_cons, List.map_nil, List.cons_append, List.nil_append, List.length_cons, List.length_nil, List.getElem?_cons_zero, List.getElem?_cons_succ, List.replicate, List.set_cons_zero, List.set_cons_succ, Nat.reduceSub, Nat.reduceAdd, if_true, if_false, Bool.false_eq_true, reduceCtorEq, truD, Bool.not_true, Bool.not_false, Option.map_some, at0, at1, at2, eqI, neI, true_and, and_true, implies_true, ne_eq, not_false_eq_true, Nat.reduceEqDiff, ed2]
    refine xMk_of [.str n, argD a, argD b, argD c] (evA_cons (fun _ z => by simp only [mk, sRet, sRetN, sSeq, sNx, sIf, sSet, sSetO, sEx, xU, xF, xB, xCons, xNil, xV, xC, xMv, st0, opt, looks, look, frz, frzs, isiG, tyG, clsG, clssG, O.toD, xAnd, xOr, xNot, xIf, xIfO, xT, xTO, xNotT, xAndT, xOrT, xIfT, xYes, xOp, xUn, xTup, xLst, xCh, xLc, xDc, iA, itemsD, gN, gT, gsC, gsN, sFor, sAsg, isB, iiG0, lenG, listG, tupG, leG, ltG, geG, gtG, intG, Ps.wp, wipeO, xP, xE, cP, cE, isSc, List.map_cons, List.map_nil, List.cons_append, List.nil_append, List.length_cons, List.length_nil, List.getElem?_cons_zero, List.getElem?_cons_succ, List.replicate, List.set_cons_zero, List.set_cons_succ, Nat.reduceSub, Nat.reduceAdd, if_true, if_false, Bool.false_eq_true, reduceCtorEq, truD, Bool.not_true, Bool.not_false, Option.map_some, at0, at1, at2, eqI, neI, true_and, and_true, implies_true, ne_eq, not_false_eq_true, Nat.reduceEqDiff, Bool.not_true]; exact z) (evA_cons (fun _ z => by simp only [mk, sRet, sRetN, sSeq, sNx, sIf, sSet, sSetO, sEx, xU, xF, xB, xCons, xNil, xV, xC, xMv, st0, opt, looks, look, frz, frzs, isiG, tyG, clsG, clssG, O.toD, xAnd, xOr, xNot, xIf, xIfO, xT, xTO, xNotT, xAndT, xOrT, xIfT, xYes, xOp, xUn, xTup, xLst, xCh, xLc, xDc, iA, itemsD, gN, gT, gsC, gsN, sFor, sAsg, isB, iiG0, lenG, listG, tupG, leG, ltG, geG, gtG, intG, Ps.wp, wipeO, xP, xE, cP, cE, isSc, List.map_cons, List.map_nil, List.cons_append, List.nil_append, List.length_cons, List.length_nil, List.getElem?_cons_zero, List.getElem?_cons_succ, List.replicate, List.set_cons_zero, List.set_cons_succ, Nat.reduceSub, Nat.reduceAdd, if_true, if_false, Bool.false_eq_true, reduceCtorEq, truD, Bool.not_true, Bool.not_false, Option.map_some, at0, at1, at2, eqI, neI, true_and, and_true, implies_true, ne_eq, not_false_eq_true, Nat.reduceEqDiff, ixD]; exact z) (evA_cons (fun _ z => by simp only [mk, sRet, sRetN, sSeq, sNx, sIf, sSet, sSetO, sEx, xU, xF, xB, xCons, xNil, xV, xC, xMv, st0, opt, looks, look, frz, frzs, isiG, tyG, clsG, clssG, O.toD, xAnd, xOr, xNot, xIf, xIfO, xT, xTO, xNotT, xAndT, xOrT, xIfT, xYes, xOp, xUn, xTup, xLst, xCh, xLc, xDc, iA, itemsD, gN, gT, gsC, gsN, sFor, sAsg, isB, iiG0, lenG, listG, tupG, leG, ltG, geG, gtG, intG, Ps.wp, wipeO, xP, xE, cP, cE, isSc, List.map_cons, List.map_nil, List.cons_append, List.nil_append, List.length_cons, List.length_nil, List.getElem?_cons_zero, List.getElem?_cons_succ, List.replicate, List.set_cons_zero, List.set_cons_succ, Nat.reduceSub, Nat.reduceAdd, if_true, if_false, Bool.false_eq_true, reduceCtorEq, truD, Bool.not_true, Bool.not_false, Option.map_some, at0, at1, at2, eqI, neI, true_and, and_true, implies_true, ne_eq, not_false_eq_true, Nat.reduceEqDiff, ixD]; exact z) (evA_cons (fun _ z => by simp only [mk, sRet, sRetN, sSeq, sNx, sIf, sSet, sSetO, sEx, xU, xF, xB, xCons, xNil, xV, xC, xMv, st0, opt, looks, look, frz, frzs, isiG, tyG, clsG, clssG, O.toD, xAnd, xOr, xNot, xIf, xIfO, xT, xTO, xNotT, xAndT, xOrT, xIfT, xYes, xOp, xUn, xTup, xLst, xCh, xLc, xDc, iA, itemsD, gN, gT, gsC, gsN, sFor, sAsg, isB, iiG0, lenG, listG, tupG, leG, ltG, geG, gtG, intG, Ps.wp, wipeO, xP, xE, cP, cE, isSc, List.map_cons, List.map_nil, List.cons_append, List.nil_append, List.length_cons, List.length_nil, List.getElem?_cons_zero, List.getElem?_cons_succ, List.replicate, List.set_cons_zero, List.set_cons_succ, Nat.reduceSub, Nat.reduceAdd, if_true, if_false, Bool.false_eq_true, reduceCtorEq, truD, Bool.not_true, Bool.not_false, Option.map_some, at0, at1, at2, eqI, neI, true_and, and_true, implies_true, ne_eq, not_false_eq_true, Nat.reduceEqDiff, ixD]; exact z) evA_nil)))) (fun z => absurd z (by decide)) rfl fun x => ?_
    refine w_table_init fk g ?_
    exact h
theorem w_made_schema (fk : Fk K cs) (g : GoodS sc) (h : Q (.d (schD cs sc)) S) : m__law_made_schema K cs [scD sc] E S Q := by
  have l1 := g.l1
  have l4 := g.l4
  unfold m__law_made_schema b__law_made_schema
  simp only [mk, st0, List.map_cons, List.map_nil, List.cons_append, List.nil_append, List.length_cons, List.length_nil, Nat.reduceSub, Nat.reduceAdd, List.replicate]
  refine seq_go fun N1 h1 => ?_
  simp only [mk, sRet, sRetN, sSeq, sNx, sIf, sSet, sSetO, sEx, xU, xF, xB, xCons, xNil, xV, xC, xMv, st0, opt, looks, look, frz, frzs, isiG, tyG, clsG, clssG, O.toD, xAnd, xOr, xNot, xIf, xIfO, xT, xTO, xNotT, xAndT, xOrT, xIfT, xYes, xOp, xUn, xTup, xLst, xCh, xLc, xDc, iA, itemsD, gN, gT, gsC, gsN, sFor, sAsg, isB, iiG0, lenG, listG, tupG, leG, ltG, geG, gtG, intG, Ps.wp, wipeO, xP, xE, cP, cE, isSc, List.map_cons, List.map_nil, List.cons_append, List.nil_append, List.length_cons, List.length_nil, List.getElem?_cons_zero, List.getElem?_cons_succ, List.replicate, List.set_cons_zero, List.set_cons_succ, Nat.reduceSub, Nat.reduceAdd, if_true, if_false, Bool.false_eq_true, reduceCtorEq, truD, Bool.not_true, Bool.not_false, Option.map_some, at0, at1, at2, eqI, neI, true_and, and_true, implies_true, ne_eq, not_false_eq_true, Nat.reduceEqDiff, scD]
  refine lcW_by (fun ds acc st => ∃ pre post o2, sc = pre ++ post ∧ ds = post.map plD ∧ acc = pre.map (tabD cs) ∧ st = ⟨[.d (.lst (sc.map plD)), .un, o2], S, false, false⟩) ?_ ?_ _ _ _ ⟨[], sc, _, rfl, rfl, rfl, rfl⟩
  rotate_left
  · rintro d ds acc st ⟨pre, post, o2, e1, e2, rfl, rfl⟩ R' hR
    cases post with
    | nil => cases e2
    | cons t post =>
      cases e2
      have ht : t ∈ sc := by rw [e1]; exact List.mem_append_right _ List.mem_cons_self
      simp only [mk, sRet, sRetN, sSeq, sNx, sIf, sSet, sSetO, sEx, xU, xF, xB, xCons, xNil, xV, xC, xMv, st0, opt, looks, look, frz, frzs, isiG, tyG, clsG, clssG, O.toD, xAnd, xOr, xNot, xIf, xIfO, xT, xTO, xNotT, xAndT, xOrT, xIfT, xYes, xOp, xUn, xTup, xLst, xCh, xLc, xDc, iA, itemsD, gN, gT, gsC, gsN, sFor, sAsg, isB, iiG0, lenG, listG, tupG, leG, ltG, geG, gtG, intG, Ps.wp, wipeO, xP, xE, cP, cE, isSc, List.map_cons, List.map_nil, List.cons_append, List.nil_append, List.length_cons, List.length_nil, List.getElem?_cons_zero, List.getElem?_cons_succ, List.replicate, List.set_cons_zero, List.set_cons_succ, Nat.reduceSub, Nat.reduceAdd, if_true, if_false, Bool.false_eq_true, reduceCtorEq, truD, Bool.not_true, Bool.not_false, Option.map_some, at0, at1, at2, eqI, neI, true_and, and_true, implies_true, ne_eq, not_false_eq_true, Nat.reduceEqDiff, Bool.not_true]
      refine w_made_table fk (g.t _ ht) ?_
      have hR' := hR (pre.map (tabD cs) ++ [tabD cs t]) ⟨[.d (.lst (sc.map plD)), .un, .d (plD t)], S, false, false⟩ ⟨pre ++ [t], post, .d (plD t), by rw [e1, List.append_assoc]; rfl, rfl, by rw [List.map_append]; rfl, rfl⟩
      have hpl : pre.length ≤ sc.length := by rw [e1, List.length_append]; omega
      simp only [mk, sRet, sRetN, sSeq, sNx, sIf, sSet, sSetO, sEx, xU, xF, xB, xCons, xNil, xV, xC, xMv, st0, opt, looks, look, frz, frzs, isiG, tyG, clsG, clssG, O.toD, xAnd, xOr, xNot, xIf, xIfO, xT, xTO, xNotT, xAndT, xOrT, xIfT, xYes, xOp, xUn, xTup, xLst, xCh, xLc, xDc, iA, itemsD, gN, gT, gsC, gsN, sFor, sAsg, isB, iiG0, lenG, listG, tupG, leG, ltG, geG, gtG, intG, Ps.wp, wipeO, xP, xE, cP, cE, isSc, List.map_cons, List.map_nil, List.cons_append, List.nil_append, List.length_cons, List.length_nil, List.getElem?_cons_zero, List.getElem?_cons_succ, List.replicate, List.set_cons_zero, List.set_cons_succ, Nat.reduceSub, Nat.reduceAdd, if_true, if_false, Bool.false_eq_true, reduceCtorEq, truD, Bool.not_true, Bool.not_false, Option.map_some, at0, at1, at2, eqI, neI, true_and, and_true, implies_true, ne_eq, not_false_eq_true, Nat.reduceEqDiff, Bool.not_true]
      exact ⟨by rw [List.length_map, sizeLine_eq]; omega, hR'⟩
  rintro acc st ⟨pre, post, o2, e1, e2, rfl, rfl⟩
  have : post = [] := by cases post with | nil => rfl | cons _ _ => cases e2
  subst this
  rw [List.append_nil] at e1
  subst e1
  simp only [mk, sRet, sRetN, sSeq, sNx, sIf, sSet, sSetO, sEx, xU, xF, xB, xCons, xNil, xV, xC, xMv, st0, opt, looks, look, frz, frzs, isiG, tyG, clsG, clssG, O.toD, xAnd, xOr, xNot, xIf, xIfO, xT, xTO, xNotT, xAndT, xOrT, xIfT, xYes, xOp, xUn, xTup, xLst, xCh, xLc, xDc, iA, itemsD, gN, gT, gsC, gsN, sFor, sAsg, isB, iiG0, lenG, listG, tupG, leG, ltG, geG, gtG, intG, Ps.wp, wipeO, xP, xE, cP, cE, isSc, List.map_cons, List.map_nil, List.cons_append, List.nil_append, List.length_cons, List.length_nil, List.getElem?_cons_zero, List.getElem?_cons_succ, List.replicate, List.set_cons_zero, List.set_cons_succ, Nat.reduceSub, Nat.reduceAdd, if_true, if_false, Bool.false_eq_true, reduceCtorEq, truD, Bool.not_true, Bool.not_false, Option.map_some, at0, at1, at2, eqI, neI, true_and, and_true, implies_true, ne_eq, not_false_eq_true, Nat.reduceEqDiff, Bool.not_true]
  refine h1 _ (seq_go fun N2 h2 => ?_)
  match sc, l1, l4, g, h, h2 with
  | [a], _, _, g, h, h2 =>
    have ed : decide (((1 : Nat) : Int) < 3) = true := by decide
    have ed2 : decide (((1 : Nat) : Int) = 1) = true := by decide
    simp only [List.map]
    simp only [mk, sRet, sRetN, sSeq, sNx, sIf, sSet, sSetO, sEx, xU, xF, xB, xCons, xNil, xV, xC, xMv, st0, opt, looks, look, frz, frzs, isiG, tyG, clsG, clssG, O.toD, xAnd, xOr, xNot, xIf, xIfO, xT, xTO, xNotT, xAndT, xOrT, xIfT, xYes, xOp, xUn, xTup, xLst, xCh, xLc, xDc, iA, itemsD, gN, gT, gsC, gsN, sFor, sAsg, isB, iiG0, lenG, listG, tupG, leG, ltG, geG, gtG, intG, Ps.wp, wipeO, xP, xE, cP, cE, isSc, List.map_cons, List.map_nil, List.cons_append, List.nil_append, List.length_cons, List.length_nil, List.getElem?_cons_zero, List.getElem?_cons_succ, List.replicate, List.set_cons_zero, List.set_cons_succ, Nat.reduceSub, Nat.reduceAdd, if_true, if_false, Bool.false_eq_true, reduceCtorEq, truD, Bool.not_true, Bool.not_false, Option.map_some, at0, at1, at2, eqI, neI, true_and, and_true, implies_true, ne_eq, not_false_eq_true, Nat.reduceEqDiff, ed, ed2]
    refine xMk_of [tabD cs a] (evA_cons (fun _ z => by simp only [mk, sRet, sRetN, sSeq, sNx, sIf, sSet, sSetO, sEx, xU, xF, xB, xCons, xNil, xV, xC, xMv, st0, opt, looks, look, frz, frzs, isiG, tyG, clsG, clssG, O.toD, xAnd, xOr, xNot, xIf, xIfO, xT, xTO, xNotT, xAndT, xOrT, xIfT, xYes, xOp, xUn, xTup, xLst, xCh, xLc, xDc, iA, itemsD, gN, gT, gsC, gsN, sFor, sAsg, isB, iiG0, lenG, listG, tupG, leG, ltG, geG, gtG, intG, Ps.wp, wipeO, xP, xE, cP, cE, isSc, List.map_cons, List.map_nil, List.cons_append, List.nil_append, List.length_cons, List.length_nil, List.getElem?_cons_zero, List.getElem?_cons_succ, List.replicate, List.set_cons_zero, List.set_cons_succ, Nat.reduceSub, Nat.reduceAdd, if_true, if_false, Bool.false_eq_true, reduceCtorEq, truD, Bool.not_true, Bool.not_false, Option.map_some, at0, at1, at2, eqI, neI, true_and, and_true, implies_true, ne_eq, not_false_eq_true, Nat.reduceEqDiff, ixD]; exact z) evA_nil) (fun z => absurd z (by decide)) rfl fun x => ?_
    refine w_schema_init (sc := [a]) fk g ?_
    exact h
  | [a, b], _, _, g, h, h2 =>
    have ed : decide (((2 : Nat) : Int) < 3) = true := by decide
    have ed2 : decide (((2 : Nat) : Int) = 1) = false := by decide
    simp only [List.map]
    simp only [mk, sRet, sRetN, sSeq, sNx, sIf, sSet, sSetO, sEx, xU, xF, xB, xCons, xNil, xV, xC, xMv, st0, opt, looks, look, frz, frzs, isiG, tyG, clsG, clssG, O.toD, xAnd, xOr, xNot, xIf, xIfO, xT, xTO, xNotT, xAndT, xOrT, xIfT, xYes, xOp, xUn, xTup, xLst, xCh, xLc, xDc, iA, itemsD, gN, gT, gsC, gsN, sFor, sAsg, isB, iiG0, lenG, listG, tupG, leG, ltG, geG, gtG, intG, Ps.wp, wipeO, xP, xE, cP, cE, isSc, List.map_cons, List.map_nil, List.cons_append, List.nil_append, List.length_cons, List.length_nil, List.getElem?_cons_zero, List.getElem?_cons_succ, List.replicate, List.set_cons_zero, List.set_cons_succ, Nat.reduceSub, Nat.reduceAdd, if_true, if_false, Bool.false_eq_true, reduceCtorEq, truD, Bool.not_true, Bool.not_false, Option.map_some, at0, at1, at2, eqI, neI, true_and, and_true, implies_true, ne_eq, not_false_eq_true, Nat.reduceEqDiff, ed, ed2]
    refine xMk_of [tabD cs a, tabD cs b] (evA_cons (fun _ z => by simp only [mk, sRet, sRetN, sSeq, sNx, sIf, sSet, sSetO, sEx, xU, xF, xB, xCons, xNil, xV, xC, xMv, st0, opt, looks, look, frz, frzs, isiG, tyG, clsG, clssG, O.toD, xAnd, xOr, xNot, xIf, xIfO, xT, xTO, xNotT, xAndT, xOrT, xIfT, xYes, xOp, xUn, xTup, xLst, xCh, xLc, xDc, iA, itemsD, gN, gT, gsC, gsN, sFor, sAsg, isB, iiG0, lenG, listG, tupG, leG, ltG, geG, gtG, intG, Ps.wp, wipeO, xP, xE, cP, cE, isSc, List.map_cons, List.map_nil, List.cons_append, List.nil_append, List.length_cons, List.length_nil, List.getElem?_cons_zero, List.getElem?_cons_succ, List.replicate, List.set_cons_zero, List.set_cons_succ, Nat.reduceSub, Nat.reduceAdd, if_true, if_false, Bool.false_eq_true, reduceCtorEq, truD, Bool.not_true, Bool.not_false, Option.map_some, at0, at1, at2, eqI, neI, true_and, and_true, implies_true, ne_eq, not_false_eq_true, Nat.reduceEqDiff, ixD]; exact z) (evA_cons (fun _ z => by simp only [mk, sRet, sRetN, sSeq, sNx, sIf, sSet, sSetO, sEx, xU, xF, xB, xCons, xNil, xV, xC, xMv, st0, opt, looks, look, frz, frzs, isiG, tyG, clsG, clssG, O.toD, xAnd, xOr, xNot, xIf, xIfO, xT, xTO, xNotT, xAndT, xOrT, xIfT, xYes, xOp, xUn, xTup, xLst, xCh, xLc, xDc, iA, itemsD, gN, gT, gsC, gsN, sFor, sAsg, isB, iiG0, lenG, listG, tupG, leG, ltG, geG, gtG, intG, Ps.wp, wipeO, xP, xE, cP, cE, isSc, List.map_cons, List.map_nil, List.cons_append, List.nil_append, List.length_cons, List.length_nil, List.getElem?_cons_zero, List.getElem?_cons_succ, List.replicate, List.set_cons_zero, List.set_cons_succ, Nat.reduceSub, Nat.reduceAdd, if_true, if_false, Bool.false_eq_true, reduceCtorEq, truD, Bool.not_true, Bool.not_false, Option.map_some, at0, at1, at2, eqI, neI, true_and, and_true, implies_true, ne_eq, not_false_eq_true, Nat.reduceEqDiff, ixD]; exact z) evA_nil)) (fun z => absurd z (by decide)) rfl fun x => ?_
    refine w_schema_init (sc := [a, b]) fk g ?_
    exact h
  | [a, b, c], _, _, g, h, h2 =>
    have ed : decide (((3 : Nat) : Int) < 3) = false := by decide
    have ed2 : decide (((3 : Nat) : Int) = 3) = true := by decide
    simp only [List.map]
    simp only [mk, sRet, sRetN, sSeq, sNx, sIf, sSet, sSetO, sEx, xU, xF, xB, xCons, xNil, xV, xC, xMv, st0, opt, looks, look, frz, frzs, isiG, tyG, clsG, clssG, O.toD, xAnd, xOr, xNot, xIf, xIfO, xT, xTO, xNotT, xAndT, xOrT, xIfT, xYes, xOp, xUn, xTup, xLst, xCh, xLc, xDc, iA, itemsD, gN, gT, gsC, gsN, sFor, sAsg, isB, iiG0, lenG, listG, tupG, leG, ltG, geG, gtG, intG, Ps.wp, wipeO, xP, xE, cP, cE, isSc, List.map_cons, List.map_nil, List.cons_append, List.nil_append, List.length_cons, List.length_nil, List.getElem?_cons_zero, List.getElem?_cons_succ, List.replicate, List.set_cons_zero, List.set_cons_succ, Nat.reduceSub, Nat.reduceAdd, if_true, if_false, Bool.false_eq_true, reduceCtorEq, truD, Bool.not_true, Bool.not_false, Option.map_some, at0, at1, at2, eqI, neI, true_and, and_true, implies_true, ne_eq, not_false_eq_true, Nat.reduceEqDiff, ed]
    refine h2 _ ?_
    simp only [mk, sRet, sRetN, sSeq, sNx, sIf, sSet, sSetO, sEx, xU, xF, xB, xCons, xNil, xV, xC, xMv, st0, opt, looks, look, frz, frzs, isiG, tyG, clsG, clssG, O.toD, xAnd, xOr, xNot, xIf, xIfO, xT, xTO, xNotT, xAndT, xOrT, xIfT, xYes, xOp, xUn, xTup, xLst, xCh, xLc, xDc, iA, itemsD, gN, gT, gsC, gsN, sFor, sAsg, isB, iiG0, lenG, listG, tupG, leG, ltG, geG, gtG, intG, Ps.wp, wipeO, xP, xE, cP, cE, isSc, List.map_cons, List.map_nil, List.cons_append, List.nil_append, List.length_cons, List.length_nil, List.getElem?_cons_zero, List.getElem?_cons_succ, List.replicate, List.set_cons_zero, List.set_cons_succ, Nat.reduceSub, Nat.reduceAdd, if_true, if_false, Bool.false_eq_true, reduceCtorEq, truD, Bool.not_true, Bool.not_false, Option.map_some, at0, at1, at2, eqI, neI, true_and, and_true, implies_true, ne_eq, not_false_eq_true, Nat.reduceEqDiff, ed2]
    refine xMk_of [tabD cs a, tabD cs b, tabD cs c] (evA_cons (fun _ z => by simp only [mk, sRet, sRetN, sSeq, sNx, sIf, sSet, sSetO, sEx, xU, xF, xB, xCons, xNil, xV, xC, xMv, st0, opt, looks, look, frz, frzs, isiG, tyG, clsG, clssG, O.toD, xAnd, xOr, xNot, xIf, xIfO, xT, xTO, xNotT, xAndT, xOrT, xIfT, xYes, xOp, xUn, xTup, xLst, xCh, xLc, xDc, iA, itemsD, gN, gT, gsC, gsN, sFor, sAsg, isB, iiG0, lenG, listG, tupG, leG, ltG, geG, gtG, intG, Ps.wp, wipeO, xP, xE, cP, cE, isSc, List.map_cons, List.map_nil, List.cons_append, List.nil_append, List.length_cons, List.length_nil, List.getElem?_cons_zero, List.getElem?_cons_succ, List.replicate, List.set_cons_zero, List.set_cons_succ, Nat.reduceSub, Nat.reduceAdd, if_true, if_false, Bool.false_eq_true, reduceCtorEq, truD, Bool.not_true, Bool.not_false, Option.map_some, at0, at1, at2, eqI, neI, true_and, and_true, implies_true, ne_eq, not_false_eq_true, Nat.reduceEqDiff, ixD]; exact z) (evA_cons (fun _ z => by simp only [mk, sRet, sRetN, sSeq, sNx, sIf, sSet, sSetO, sEx, xU, xF, xB, xCons, xNil, xV, xC, xMv, st0, opt, looks, look, frz, frzs, isiG, tyG, clsG, clssG, O.toD, xAnd, xOr, xNot, xIf, xIfO, xT, xTO, xNotT, xAndT, xOrT, xIfT, xYes, xOp, xUn, xTup, xLst, xCh, xLc, xDc, iA, itemsD, gN, gT, gsC, gsN, sFor, sAsg, isB, iiG0, lenG, listG, tupG, leG, ltG, geG, gtG, intG, Ps.wp, wipeO, xP, xE, cP, cE, isSc, List.map_cons, List.map_nil, List.cons_append, List.nil_append, List.length_cons, List.length_nil, List.getElem?_cons_zero, List.getElem?_cons_succ, List.replicate, List.set_cons_zero, List.set_cons_succ, Nat.reduceSub, Nat.reduceAdd, if_true, if_false, Bool.false_eq_true, reduceCtorEq, truD, Bool.not_true, Bool.not_false, Option.map_some, at0, at1, at2, eqI, neI, true_and, and_true, implies_true, ne_eq, not_false_eq_true, Nat.reduceEqDiff, ixD]; exact z) (evA_cons (fun _ z => by simp only [mk, sRet, sRetN, sSeq, sNx, sIf, sSet, sSetO, sEx, xU, xF, xB, xCons, xNil, xV, xC, xMv, st0, opt, looks, look, frz, frzs, isiG, tyG, clsG, clssG, O.toD, xAnd, xOr, xNot, xIf, xIfO, xT, xTO, xNotT, xAndT, xOrT, xIfT, xYes, xOp, xUn, xTup, xLst, xCh, xLc, xDc, iA, itemsD, gN, gT, gsC, gsN, sFor, sAsg, isB, iiG0, lenG, listG, tupG, leG, ltG, geG, gtG, intG, Ps.wp, wipeO, xP, xE, cP, cE, isSc, List.map_cons, List.map_nil, List.cons_append, List.nil_append, List.length_cons, List.length_nil, List.getElem?_cons_zero, List.getElem?_cons_succ, List.replicate, List.set_cons_zero, List.set_cons_succ, Nat.reduceSub, Nat.reduceAdd, if_true, if_false, Bool.false_eq_true, reduceCtorEq, truD, Bool.not_true, Bool.not_false, Option.map_some, at0, at1, at2, eqI, neI, true_and, and_true, implies_true, ne_eq, not_false_eq_true, Nat.reduceEqDiff, ixD]; exact z) evA_nil))) (fun z => absurd z (by decide)) rfl fun x => ?_
    refine w_schema_init (sc := [a, b, c]) fk g ?_
    exact h
  | [a, b, c, d], _, _, g, h, h2 =>
    have ed : decide (((4 : Nat) : Int) < 3) = false := by decide
    have ed2 : decide (((4 : Nat) : Int) = 3) = false := by decide
    have e3 : ∀ w x y z : D, atI [w, x, y, z] 3 = some z := fun w x y z => atI_nat (j := 3) rfl
    simp only [List.map]
    simp only [mk, sRet, sRetN, sSeq, sNx, sIf, sSet, sSetO, sEx, xU, xF, xB, xCons, xNil, xV, xC, xMv, st0, opt, looks, look, frz, frzs, isiG, tyG, clsG, clssG, O.toD, xAnd, xOr, xNot, xIf, xIfO, xT, xTO, xNotT, xAndT, xOrT, xIfT, xYes, xOp, xUn, xTup, xLst, xCh, xLc, xDc, iA, itemsD, gN, gT, gsC, gsN, sFor, sAsg, isB, iiG0, lenG, listG, tupG, leG, ltG, geG, gtG, intG, Ps.wp, wipeO, xP, xE, cP, cE, isSc, List.map_cons, List.map_nil, List.cons_append, List.nil_append, List.length_cons, List.length_nil, List.getElem?_cons_zero, List.getElem?_cons_succ, List.replicate, List.set_cons_zero, List.set_cons_succ, Nat.reduceSub, Nat.reduceAdd, if_true, if_false, Bool.false_eq_true, reduceCtorEq, truD, Bool.not_true, Bool.not_false, Option.map_some, at0, at1, at2, eqI, neI, true_and, and_true, implies_true, ne_eq, not_false_eq_true, Nat.reduceEqDiff, ed]
    refine h2 _ ?_
    simp only [mk, sRet, sRetN, sSeq, sNx, sIf, sSet, sSetO, sEx, xU, xF, xB, xCons, xNil, xV, xC, xMv, st0, opt, looks, look, frz, frzs, isiG, tyG, clsG, clssG, O.toD, xAnd, xOr, xNot, xIf, xIfO, xT, xTO, xNotT, xAndT, xOrT, xIfT, xYes, xOp, xUn, xTup, xLst, xCh, xLc, xDc, iA, itemsD, gN, gT, gsC, gsN, sFor, sAsg, isB, iiG0, lenG, listG, tupG, leG, ltG, geG, gtG, intG, Ps.wp, wipeO, xP, xE, cP, cE, isSc, List.map_cons, List.map_nil, List.cons_append, List.nil_append, List.length_cons, List.length_nil, List.getElem?_cons_zero, List.getElem?_cons_succ, List.replicate, List.set_cons_zero, List.set_cons_succ, Nat.reduceSub, Nat.reduceAdd, if_true, if_false, Bool.false_eq_true, reduceCtorEq, truD, Bool.not_true, Bool.not_false, Option.map_some, at0, at1, at2, eqI, neI, true_and, and_true, implies_true, ne_eq, not_false_eq_true, Nat.reduceEqDiff, ed2]
    refine xMk_of [tabD cs a, tabD cs b, tabD cs c, tabD cs d] (evA_cons (fun _ z => by simp only [mk, sRet, sRetN, sSeq, sNx, sIf, sSet, sSetO, sEx, xU, xF, xB, xCons, xNil, xV, xC, xMv, st0, opt, looks, look, frz, frzs, isiG, tyG, clsG, clssG, O.toD, xAnd, xOr, xNot, xIf, xIfO, xT, xTO, xNotT, xAndT, xOrT, xIfT, xYes, xOp, xUn, xTup, xLst, xCh, xLc, xDc, iA, itemsD, gN, gT, gsC, gsN, sFor, sAsg, isB, iiG0, lenG, listG, tupG, leG, ltG, geG, gtG, intG, Ps.wp, wipeO, xP, xE, cP, cE, isSc, List.map_cons, List.map_nil, List.cons_append, List.nil_append, List.length_cons, List.length_nil, List.getElem?_cons_zero, List.getElem?_cons_succ, List.replicate, List.set_cons_zero, List.set_cons_succ, Nat.reduceSub, Nat.reduceAdd, if_true, if_false, Bool.false_eq_true, reduceCtorEq, truD, Bool.not_true, Bool.not_false, Option.map_some, at0, at1, at2, eqI, neI, true_and, and_true, implies_true, ne_eq, not_false_eq_true, Nat.reduceEqDiff, ixD, e3]; exact z) (evA_cons (fun _ z => by simp only [mk, sRet, sRetN, sSeq, sNx, sIf, sSet, sSetO, sEx, xU, xF, xB, xCons, xNil, xV, xC, xMv, st0, opt, looks, look, frz, frzs, isiG, tyG, clsG, clssG, O.toD, xAnd, xOr, xNot, xIf, xIfO, xT, xTO, xNotT, xAndT, xOrT, xIfT, xYes, xOp, xUn, xTup, xLst, xCh, xLc, xDc, iA, itemsD, gN, gT, gsC, gsN, sFor, sAsg, isB, iiG0, lenG, listG, tupG, leG, ltG, geG, gtG, intG, Ps.wp, wipeO, xP, xE, cP, cE, isSc, List.map_cons, List.map_nil, List.cons_append, List.nil_append, List.length_cons, List.length_nil, List.getElem?_cons_zero, List.getElem?_cons_succ, List.replicate, List.set_cons_zero, List.set_cons_succ, Nat.reduceSub, Nat.reduceAdd, if_true, if_false, Bool.false_eq_true, reduceCtorEq, truD, Bool.not_true, Bool.not_false, Option.map_some, at0, at1, at2, eqI, neI, true_and, and_true, implies_true, ne_eq, not_false_eq_true, Nat.reduceEqDiff, ixD, e3]; exact z) (evA_cons (fun _ z => by simp only [mk, sRet, sRetN, sSeq, sNx, sIf, sSet, sSetO, sEx, xU, xF, xB, xCons, xNil, xV, xC, xMv, st0, opt, looks, look, frz, frzs, isiG, tyG, clsG, clssG, O.toD, xAnd, xOr, xNot, xIf, xIfO, xT, xTO, xNotT, xAndT, xOrT, xIfT, xYes, xOp, xUn, xTup, xLst, xCh, xLc, xDc, iA, itemsD, gN, gT, gsC, gsN, sFor, sAsg, isB, iiG0, lenG, listG, tupG, leG, ltG, geG, gtG, intG, Ps.wp, wipeO, xP, xE, cP, cE, isSc, List.map_cons, List.map_nil, List.cons_append, List.nil_append, List.length_cons, List.length_nil, List.getElem?_cons_zero, List.getElem?_cons_succ, List.replicate, List.set_cons_zero, List.set_cons_succ, Nat.reduceSub, Nat.reduceAdd, if_true, if_false, Bool.false_eq_true, reduceCtorEq, truD, Bool.not_true, Bool.not_false, Option.map_some, at0, at1, at2, eqI, neI, true_and, and_true, implies_true, ne_eq, not_false_eq_true, Nat.reduceEqDiff, ixD, e3]; exact z) (evA_cons (fun _ z => by simp only [mk, sRet, sRetN, sSeq, sNx, sIf, sSet, sSetO, sEx, xU, xF, xB, xCons, xNil, xV, xC, xMv, st0, opt, looks, look, frz, frzs, isiG, tyG, clsG, clssG, O.toD, xAnd, xOr, xNot, xIf, xIfO, xT, xTO, xNotT, xAndT, xOrT, xIfT, xYes, xOp, xUn, xTup, xLst, xCh, xLc, xDc, iA, itemsD, gN, gT, gsC, gsN, sFor, sAsg, isB, iiG0, lenG, listG, tupG, leG, ltG, geG, gtG, intG, Ps.wp, wipeO, xP, xE, cP, cE, isSc, List.map_cons, List.map_nil, List.cons_append, List.nil_append, List.length_cons, List.length_nil, List.getElem?_cons_zero, List.getElem?_cons_succ, List.replicate, List.set_cons_zero, List.set_cons_succ, Nat.reduceSub, Nat.reduceAdd, if_true, if_false, Bool.false_eq_true, reduceCtorEq, truD, Bool.not_true, Bool.not_false, Option.map_some, at0, at1, at2, eqI, neI, true_and, and_true, implies_true, ne_eq, not_false_eq_true, Nat.reduceEqDiff, ixD, e3]; exact z) evA_nil)))) (fun z => absurd z (by decide)) rfl fun x => ?_
    refine w_schema_init (sc := [a, b, c, d]) fk g ?_
    exact h
end Q
namespace Q
open PySem L2 PySem.Spec PyProof.Rows
variable {K : PySem.W.Frag} {cs : Cs} {E : EF} {S : List Cell} {Q : O → List Cell → Prop} {J : O → Prop} {t : Tab} {sc : List Tab}
/-- rows by names -/
def rowsL (sc : List Tab) (rf : Str → List (List Str)) : List (Key × D) := sc.map fun t => ((Sum.inr t.1 : Key), D.lst ((rf t.1).map rowD))
def dbK (sc : List Tab) (rf : Str → List (List Str)) : List (Str × List (List Key)) := sc.map fun t => (t.1, (rf t.1).map rowK)
structure RowsOk (sc : List Tab) (rf : Str → List (List Str)) : Prop where
  ok : ∀ t ∈ sc, ∀ r ∈ rf t.1, rowOk t.2 r
  nd : ∀ t ∈ sc, (rf t.1).Nodup
  len : ∀ t ∈ sc, (rf t.1).length ≤ 1000
theorem rowsL_val {rf : Str → List (List Str)} (nd : (sc.map (·.1)).Nodup) (ht : t ∈ sc) : valD (rowsL sc rf) (Sum.inr t.1 : Key) = some (.lst ((rf t.1).map rowD)) := by
  refine valD_of ?_ (List.mem_map.mpr ⟨t, ht, rfl⟩)
  unfold rowsL
  rw [List.map_map]
  have := nd_inr nd
  rw [List.map_map] at this
  exact this
theorem w_made_database (fk : Fk K cs) (g : GoodS sc) {rf : Str → List (List Str)} (ok : RowsOk sc rf) (h : ∀ x, Q (.d (.cell S.length)) (S ++ [.db x cs.Database (schD cs sc) (dbK sc rf)])) : m__law_made_database K cs [scD sc, .dK (rowsL sc rf)] E S Q := by
  have l4 := g.l4
  unfold m__law_made_database b__law_made_database
  simp only [mk, st0, List.map_cons, List.map_nil, List.cons_append, List.nil_append, List.length_cons, List.length_nil, Nat.reduceSub, Nat.reduceAdd, List.replicate]
  refine seq_go fun N1 h1 => ?_
  simp only [mk, sRet, sRetN, sSeq, sNx, sIf, sSet, sSetO, sEx, xU, xF, xB, xCons, xNil, xV, xC, xMv, st0, opt, looks, look, frz, frzs, isiG, tyG, clsG, clssG, O.toD, xAnd, xOr, xNot, xIf, xIfO, xT, xTO, xNotT, xAndT, xOrT, xIfT, xYes, xOp, xUn, xTup, xLst, xCh, xLc, xDc, iA, itemsD, gN, gT, gsC, gsN, sFor, sAsg, isB, iiG0, lenG, listG, tupG, leG, ltG, geG, gtG, intG, Ps.wp, wipeO, xP, xE, cP, cE, isSc, List.map_cons, List.map_nil, List.cons_append, List.nil_append, List.length_cons, List.length_nil, List.getElem?_cons_zero, List.getElem?_cons_succ, List.replicate, List.set_cons_zero, List.set_cons_succ, Nat.reduceSub, Nat.reduceAdd, if_true, if_false, Bool.false_eq_true, reduceCtorEq, truD, Bool.not_true, Bool.not_false, Option.map_some, at0, at1, at2, eqI, neI, true_and, and_true, implies_true, ne_eq, not_false_eq_true, Nat.reduceEqDiff, xMkDb]
  refine w_made_schema fk g ?_
  simp only [mk, sRet, sRetN, sSeq, sNx, sIf, sSet, sSetO, sEx, xU, xF, xB, xCons, xNil, xV, xC, xMv, st0, opt, looks, look, frz, frzs, isiG, tyG, clsG, clssG, O.toD, xAnd, xOr, xNot, xIf, xIfO, xT, xTO, xNotT, xAndT, xOrT, xIfT, xYes, xOp, xUn, xTup, xLst, xCh, xLc, xDc, iA, itemsD, gN, gT, gsC, gsN, sFor, sAsg, isB, iiG0, lenG, listG, tupG, leG, ltG, geG, gtG, intG, Ps.wp, wipeO, xP, xE, cP, cE, isSc, List.map_cons, List.map_nil, List.cons_append, List.nil_append, List.length_cons, List.length_nil, List.getElem?_cons_zero, List.getElem?_cons_succ, List.replicate, List.set_cons_zero, List.set_cons_succ, Nat.reduceSub, Nat.reduceAdd, if_true, if_false, Bool.false_eq_true, reduceCtorEq, truD, Bool.not_true, Bool.not_false, Option.map_some, at0, at1, at2, eqI, neI, true_and, and_true, implies_true, ne_eq, not_false_eq_true, Nat.reduceEqDiff, Bool.not_true]
  refine w_db_init fk g fun x => ?_
  refine h1 _ (seq_go fun N2 h2 => ?_)
  simp only [mk, sRet, sRetN, sSeq, sNx, sIf, sSet, sSetO, sEx, xU, xF, xB, xCons, xNil, xV, xC, xMv, st0, opt, looks, look, frz, frzs, isiG, tyG, clsG, clssG, O.toD, xAnd, xOr, xNot, xIf, xIfO, xT, xTO, xNotT, xAndT, xOrT, xIfT, xYes, xOp, xUn, xTup, xLst, xCh, xLc, xDc, iA, itemsD, gN, gT, gsC, gsN, sFor, sAsg, isB, iiG0, lenG, listG, tupG, leG, ltG, geG, gtG, intG, Ps.wp, wipeO, xP, xE, cP, cE, isSc, List.map_cons, List.map_nil, List.cons_append, List.nil_append, List.length_cons, List.length_nil, List.getElem?_cons_zero, List.getElem?_cons_succ, List.replicate, List.set_cons_zero, List.set_cons_succ, Nat.reduceSub, Nat.reduceAdd, if_true, if_false, Bool.false_eq_true, reduceCtorEq, truD, Bool.not_true, Bool.not_false, Option.map_some, at0, at1, at2, eqI, neI, true_and, and_true, implies_true, ne_eq, not_false_eq_true, Nat.reduceEqDiff, scD]
  refine forW_by (fun ds st => ∃ pre post o3 o4, sc = pre ++ post ∧ ds = post.map plD ∧ st = ⟨[.d (.lst (sc.map plD)), .d (.dK (rowsL sc rf)), .d (.cell S.length), o3, o4], S ++ [.db x cs.Database (schD cs sc) (sc.map fun t => (t.1, if t.1 ∈ pre.map (·.1) then (rf t.1).map rowK else []))], true, false⟩) ?_ ?_ _ _ ⟨[], sc, .un, .un, rfl, rfl, ?_⟩
  · rintro st ⟨pre, post, o3, o4, e1, e2, rfl⟩
    have : post = [] := by cases post with | nil => rfl | cons _ _ => cases e2
    subst this
    rw [List.append_nil] at e1
    subst e1
    refine h2 _ ?_
    simp only [mk, sRet, sRetN, sSeq, sNx, sIf, sSet, sSetO, sEx, xU, xF, xB, xCons, xNil, xV, xC, xMv, st0, opt, looks, look, frz, frzs, isiG, tyG, clsG, clssG, O.toD, xAnd, xOr, xNot, xIf, xIfO, xT, xTO, xNotT, xAndT, xOrT, xIfT, xYes, xOp, xUn, xTup, xLst, xCh, xLc, xDc, iA, itemsD, gN, gT, gsC, gsN, sFor, sAsg, isB, iiG0, lenG, listG, tupG, leG, ltG, geG, gtG, intG, Ps.wp, wipeO, xP, xE, cP, cE, isSc, List.map_cons, List.map_nil, List.cons_append, List.nil_append, List.length_cons, List.length_nil, List.getElem?_cons_zero, List.getElem?_cons_succ, List.replicate, List.set_cons_zero, List.set_cons_succ, Nat.reduceSub, Nat.reduceAdd, if_true, if_false, Bool.false_eq_true, reduceCtorEq, truD, Bool.not_true, Bool.not_false, Option.map_some, at0, at1, at2, eqI, neI, true_and, and_true, implies_true, ne_eq, not_false_eq_true, Nat.reduceEqDiff, Bool.not_true]
    have hh := h x
    unfold dbK at hh
    rw [List.map_congr_left (g := fun t : Tab => (t.1, (rf t.1).map rowK)) fun t ht => by rw [if_pos (List.mem_map.mpr ⟨t, ht, rfl⟩)]]
    exact hh
  · rintro d ds st ⟨pre, post, o3, o4, e1, e2, rfl⟩ N hN
    cases post with
    | nil => cases e2
    | cons t post =>
      cases e2
      have ht : t ∈ sc := by rw [e1]; exact List.mem_append_right _ List.mem_cons_self
      have hS : (S ++ [Cell.db x cs.Database (schD cs sc) (sc.map fun t => (t.1, if t.1 ∈ pre.map (·.1) then (rf t.1).map rowK else []))])[S.length]? = some (.db x cs.Database (schD cs sc) (sc.map fun t => (t.1, if t.1 ∈ pre.map (·.1) then (rf t.1).map rowK else []))) := by
        rw [List.getElem?_append_right (Nat.le_refl _), Nat.sub_self]
        rfl
      have hN' := fun o3 o4 => hN ⟨[.d (.lst (sc.map plD)), .d (.dK (rowsL sc rf)), .d (.cell S.length), o3, o4], S ++ [.db x cs.Database (schD cs sc) (sc.map fun t' => (t'.1, if t'.1 ∈ (pre ++ [t]).map (·.1) then (rf t'.1).map rowK else []))], true, false⟩ ⟨pre ++ [t], post, o3, o4, by rw [e1, List.append_assoc]; rfl, rfl, rfl⟩
      simp only [mk, sRet, sRetN, sSeq, sNx, sIf, sSet, sSetO, sEx, xU, xF, xB, xCons, xNil, xV, xC, xMv, st0, opt, looks, look, frz, frzs, isiG, tyG, clsG, clssG, O.toD, xAnd, xOr, xNot, xIf, xIfO, xT, xTO, xNotT, xAndT, xOrT, xIfT, xYes, xOp, xUn, xTup, xLst, xCh, xLc, xDc, iA, itemsD, gN, gT, gsC, gsN, sFor, sAsg, isB, iiG0, lenG, listG, tupG, leG, ltG, geG, gtG, intG, Ps.wp, wipeO, xP, xE, cP, cE, isSc, List.map_cons, List.map_nil, List.cons_append, List.nil_append, List.length_cons, List.length_nil, List.getElem?_cons_zero, List.getElem?_cons_succ, List.replicate, List.set_cons_zero, List.set_cons_succ, Nat.reduceSub, Nat.reduceAdd, if_true, if_false, Bool.false_eq_true, reduceCtorEq, truD, Bool.not_true, Bool.not_false, Option.map_some, at0, at1, at2, eqI, neI, true_and, and_true, implies_true, ne_eq, not_false_eq_true, Nat.reduceEqDiff, plD, sSetS, dgG_dK (rowsL_val g.nd ht), cls_db hS (show (("__setitem__" : Str) == "own_schema" || ("__setitem__" : Str) == "own_rows") = false by decide +kernel), cA]
      refine w_setitem fk g hS ht (List.mem_map.mpr ⟨_, List.mem_map.mpr ⟨t, ht, rfl⟩, rfl⟩) (by rw [List.length_map]; omega) (ok.ok t ht) (ok.nd t ht) (ok.len t ht) ?_
      have es : (S ++ [Cell.db x cs.Database (schD cs sc) (sc.map fun t => (t.1, if t.1 ∈ pre.map (·.1) then (rf t.1).map rowK else []))]).set S.length (.db x cs.Database (schD cs sc) (setRows (sc.map fun t => (t.1, if t.1 ∈ pre.map (·.1) then (rf t.1).map rowK else [])) t.1 ((rf t.1).map rowK))) = S ++ [.db x cs.Database (schD cs sc) (sc.map fun t' => (t'.1, if t'.1 ∈ (pre ++ [t]).map (·.1) then (rf t'.1).map rowK else []))] := by
        rw [List.set_append_right _ _ (Nat.le_refl _), Nat.sub_self]
        have e6 : setRows (sc.map fun t => (t.1, if t.1 ∈ pre.map (·.1) then (rf t.1).map rowK else [])) t.1 ((rf t.1).map rowK) = sc.map fun t' => (t'.1, if t'.1 ∈ (pre ++ [t]).map (·.1) then (rf t'.1).map rowK else []) := by
          unfold setRows
          rw [List.map_map]
          refine List.map_congr_left fun t' _ => ?_
          simp only [Function.comp, List.map_append, List.mem_append, List.map_cons, List.map_nil, List.mem_singleton]
          by_cases z : t'.1 = t.1
          · rw [if_pos z, if_pos (.inr z), z]
          · rw [if_neg z]
            simp only [z, or_false]
        rw [e6]
        rfl
      rw [es]
      exact hN' _ _
  · have e7 : noRows (sc.map (·.1)) = sc.map fun t => (t.1, if t.1 ∈ ([] : List Tab).map (·.1) then (rf t.1).map rowK else []) := by
      unfold noRows
      rw [List.map_map]
      exact List.map_congr_left fun t _ => by simp
    rw [e7]
end Q
namespace Q
open PySem L2 PySem.Spec PyProof.Rows
variable {K : PySem.W.Frag} {cs : Cs} {E : EF} {R : List Cell} {Q : O → List Cell → Prop} {n : Nat} {t : Tab} {sc : List Tab}
theorem w_lnames {m : Nat} (hm : m ≤ 13) (hn : n + 8 < 2 ^ 60) (h : ∀ ws : List Str, ws.length = m → (∀ x ∈ ws, wordB x = true) → ws.Nodup → ∀ n', n' ≤ n + 8 → Q (.d (.lst (ws.map D.str))) (.pen n' :: R)) : m__law_names K cs [.cell 0, .int m] E (.pen n :: R) Q := by
  unfold m__law_names b__law_names
  simp only [mk, sRet, sRetN, sSeq, sNx, sIf, sSet, sSetO, sEx, xU, xF, xB, xCons, xNil, xV, xC, xMv, st0, opt, looks, look, frz, frzs, isiG, tyG, clsG, clssG, O.toD, xAnd, xOr, xNot, xIf, xIfO, xT, xTO, xNotT, xAndT, xOrT, xIfT, xYes, xOp, xUn, xTup, xLst, xCh, xLc, xDc, iA, itemsD, gN, gT, gsC, gsN, sFor, sAsg, isB, iiG0, lenG, listG, tupG, leG, ltG, geG, gtG, intG, Ps.wp, wipeO, xP, xE, cP, cE, isSc, List.map_cons, List.map_nil, List.cons_append, List.nil_append, List.length_cons, List.length_nil, List.getElem?_cons_zero, List.getElem?_cons_succ, List.replicate, List.set_cons_zero, List.set_cons_succ, Nat.reduceSub, Nat.reduceAdd, if_true, if_false, Bool.false_eq_true, reduceCtorEq, truD, Bool.not_true, Bool.not_false, Option.map_some, at0, at1, at2, eqI, neI, true_and, and_true, implies_true, ne_eq, not_false_eq_true, Nat.reduceEqDiff, Bool.not_true]
  refine w_words hm hn fun ws h1 h2 h3 n' hn' => ?_
  exact h ws h1 h2 h3 n' hn'
theorem w_row_drawn (gt : GoodT t) {ns : List Str} (hns : ∀ x ∈ ns, wordB x = true) (hn0 : ns ≠ []) (hnl : ns.length ≤ 100) (hn : n + 10 < 2 ^ 60) (h : ∀ r, rowOk t.2 r → ∀ n', n' ≤ n + 3 → Q (.d (rowD r)) (.pen n' :: R)) : m__law_row_drawn K cs [.cell 0, .lst (t.2.map colD), .lst (ns.map D.str)] E (.pen n :: R) Q := by
  have l3 := gt.l3
  unfold m__law_row_drawn b__law_row_drawn
  simp only [mk, sRet, sRetN, sSeq, sNx, sIf, sSet, sSetO, sEx, xU, xF, xB, xCons, xNil, xV, xC, xMv, st0, opt, looks, look, frz, frzs, isiG, tyG, clsG, clssG, O.toD, xAnd, xOr, xNot, xIf, xIfO, xT, xTO, xNotT, xAndT, xOrT, xIfT, xYes, xOp, xUn, xTup, xLst, xCh, xLc, xDc, iA, itemsD, gN, gT, gsC, gsN, sFor, sAsg, isB, iiG0, lenG, listG, tupG, leG, ltG, geG, gtG, intG, Ps.wp, wipeO, xP, xE, cP, cE, isSc, List.map_cons, List.map_nil, List.cons_append, List.nil_append, List.length_cons, List.length_nil, List.getElem?_cons_zero, List.getElem?_cons_succ, List.replicate, List.set_cons_zero, List.set_cons_succ, Nat.reduceSub, Nat.reduceAdd, if_true, if_false, Bool.false_eq_true, reduceCtorEq, truD, Bool.not_true, Bool.not_false, Option.map_some, at0, at1, at2, eqI, neI, true_and, and_true, implies_true, ne_eq, not_false_eq_true, Nat.reduceEqDiff, Bool.not_true]
  refine lcW_by (fun ds acc st => ∃ (pre post : List Col) (r : List Str) (o3 o4 : O), t.2 = pre ++ post ∧ ds = post.map colD ∧ acc = r.map D.str ∧ rowOk pre r ∧ st = ⟨[.d (.cell 0), .d (.lst (t.2.map colD)), .d (.lst (ns.map D.str)), o3, o4], .pen (n + r.length) :: R, true, false⟩) ?_ ?_ _ _ _ ⟨[], t.2, [], _, _, rfl, rfl, rfl, trivial, rfl⟩
  · rintro acc st ⟨pre, post, r, o3, o4, e1, e2, rfl, e4, rfl⟩
    have : post = [] := by cases post with | nil => rfl | cons _ _ => cases e2
    subst this
    rw [List.append_nil] at e1
    have hl := rowOk_len e4
    rw [← e1] at e4 hl
    simp only [mk, sRet, sRetN, sSeq, sNx, sIf, sSet, sSetO, sEx, xU, xF, xB, xCons, xNil, xV, xC, xMv, st0, opt, looks, look, frz, frzs, isiG, tyG, clsG, clssG, O.toD, xAnd, xOr, xNot, xIf, xIfO, xT, xTO, xNotT, xAndT, xOrT, xIfT, xYes, xOp, xUn, xTup, xLst, xCh, xLc, xDc, iA, itemsD, gN, gT, gsC, gsN, sFor, sAsg, isB, iiG0, lenG, listG, tupG, leG, ltG, geG, gtG, intG, Ps.wp, wipeO, xP, xE, cP, cE, isSc, List.map_cons, List.map_nil, List.cons_append, List.nil_append, List.length_cons, List.length_nil, List.getElem?_cons_zero, List.getElem?_cons_succ, List.replicate, List.set_cons_zero, List.set_cons_succ, Nat.reduceSub, Nat.reduceAdd, if_true, if_false, Bool.false_eq_true, reduceCtorEq, truD, Bool.not_true, Bool.not_false, Option.map_some, at0, at1, at2, eqI, neI, true_and, and_true, implies_true, ne_eq, not_false_eq_true, Nat.reduceEqDiff, Bool.not_true]
    exact h r e4 _ (by omega)
  · rintro d ds acc st ⟨pre, post, r, o3, o4, e1, e2, rfl, e4, rfl⟩ R' hR
    cases post with
    | nil => cases e2
    | cons c post =>
      cases e2
      have hc : c ∈ t.2 := by rw [e1]; exact List.mem_append_right _ List.mem_cons_self
      have gc := gt.c c hc
      have hl := rowOk_len e4
      have hlt : pre.length ≤ t.2.length := by rw [e1, List.length_append]; omega
      have go : ∀ x, (wordB x = true ∧ ∀ ms, c.2 = some ms → x ∈ ms) → ∀ o3 o4, R' (r.map D.str ++ [.str x]) ⟨[.d (.cell 0), .d (.lst (t.2.map colD)), .d (.lst (ns.map D.str)), o3, o4], .pen (n + r.length + 1) :: R, true, false⟩ := by
        intro x hx o3 o4
        refine hR _ _ ⟨pre ++ [c], post, r ++ [x], o3, o4, by rw [e1, List.append_assoc]; rfl, rfl, by rw [List.map_append]; rfl, ?_, by rw [List.length_append]; rfl⟩
        clear hR e1 hl hlt
        induction pre generalizing r with
        | nil =>
          cases r with
          | nil => exact ⟨hx, trivial⟩
          | cons _ _ => exact e4.elim
        | cons p pre ih =>
          cases r with
          | nil => exact e4.elim
          | cons y r => exact ⟨e4.1, ih _ e4.2⟩
      obtain ⟨cn, o⟩ := c
      cases o with
      | none =>
        simp only [mk, sRet, sRetN, sSeq, sNx, sIf, sSet, sSetO, sEx, xU, xF, xB, xCons, xNil, xV, xC, xMv, st0, opt, looks, look, frz, frzs, isiG, tyG, clsG, clssG, O.toD, xAnd, xOr, xNot, xIf, xIfO, xT, xTO, xNotT, xAndT, xOrT, xIfT, xYes, xOp, xUn, xTup, xLst, xCh, xLc, xDc, iA, itemsD, gN, gT, gsC, gsN, sFor, sAsg, isB, iiG0, lenG, listG, tupG, leG, ltG, geG, gtG, intG, Ps.wp, wipeO, xP, xE, cP, cE, isSc, List.map_cons, List.map_nil, List.cons_append, List.nil_append, List.length_cons, List.length_nil, List.getElem?_cons_zero, List.getElem?_cons_succ, List.replicate, List.set_cons_zero, List.set_cons_succ, Nat.reduceSub, Nat.reduceAdd, if_true, if_false, Bool.false_eq_true, reduceCtorEq, truD, Bool.not_true, Bool.not_false, Option.map_some, at0, at1, at2, eqI, neI, true_and, and_true, implies_true, ne_eq, not_false_eq_true, Nat.reduceEqDiff, colD, mkD, isNG]
        refine w_pick (by omega) (by simpa using hn0) (by rw [List.length_map]; omega) fun x hx => ?_
        obtain ⟨y, hy, rfl⟩ := List.mem_map.mp hx
        simp only [mk, sRet, sRetN, sSeq, sNx, sIf, sSet, sSetO, sEx, xU, xF, xB, xCons, xNil, xV, xC, xMv, st0, opt, looks, look, frz, frzs, isiG, tyG, clsG, clssG, O.toD, xAnd, xOr, xNot, xIf, xIfO, xT, xTO, xNotT, xAndT, xOrT, xIfT, xYes, xOp, xUn, xTup, xLst, xCh, xLc, xDc, iA, itemsD, gN, gT, gsC, gsN, sFor, sAsg, isB, iiG0, lenG, listG, tupG, leG, ltG, geG, gtG, intG, Ps.wp, wipeO, xP, xE, cP, cE, isSc, List.map_cons, List.map_nil, List.cons_append, List.nil_append, List.length_cons, List.length_nil, List.getElem?_cons_zero, List.getElem?_cons_succ, List.replicate, List.set_cons_zero, List.set_cons_succ, Nat.reduceSub, Nat.reduceAdd, if_true, if_false, Bool.false_eq_true, reduceCtorEq, truD, Bool.not_true, Bool.not_false, Option.map_some, at0, at1, at2, eqI, neI, true_and, and_true, implies_true, ne_eq, not_false_eq_true, Nat.reduceEqDiff, Bool.not_true]
        exact ⟨by rw [List.length_map, sizeLine_eq]; omega, go y ⟨hns y hy, fun ms z => by cases z⟩ _ _⟩
      | some ms =>
        obtain ⟨m1, m2, m3, m4⟩ := gc.m ms rfl
        simp only [mk, sRet, sRetN, sSeq, sNx, sIf, sSet, sSetO, sEx, xU, xF, xB, xCons, xNil, xV, xC, xMv, st0, opt, looks, look, frz, frzs, isiG, tyG, clsG, clssG, O.toD, xAnd, xOr, xNot, xIf, xIfO, xT, xTO, xNotT, xAndT, xOrT, xIfT, xYes, xOp, xUn, xTup, xLst, xCh, xLc, xDc, iA, itemsD, gN, gT, gsC, gsN, sFor, sAsg, isB, iiG0, lenG, listG, tupG, leG, ltG, geG, gtG, intG, Ps.wp, wipeO, xP, xE, cP, cE, isSc, List.map_cons, List.map_nil, List.cons_append, List.nil_append, List.length_cons, List.length_nil, List.getElem?_cons_zero, List.getElem?_cons_succ, List.replicate, List.set_cons_zero, List.set_cons_succ, Nat.reduceSub, Nat.reduceAdd, if_true, if_false, Bool.false_eq_true, reduceCtorEq, truD, Bool.not_true, Bool.not_false, Option.map_some, at0, at1, at2, eqI, neI, true_and, and_true, implies_true, ne_eq, not_false_eq_true, Nat.reduceEqDiff, colD, mkD, isNG]
        refine w_pick (by omega) (by intro z; rw [List.map_eq_nil_iff] at z; rw [z] at m1; exact absurd m1 (by decide)) (by rw [List.length_map]; omega) fun x hx => ?_
        obtain ⟨y, hy, rfl⟩ := List.mem_map.mp hx
        simp only [mk, sRet, sRetN, sSeq, sNx, sIf, sSet, sSetO, sEx, xU, xF, xB, xCons, xNil, xV, xC, xMv, st0, opt, looks, look, frz, frzs, isiG, tyG, clsG, clssG, O.toD, xAnd, xOr, xNot, xIf, xIfO, xT, xTO, xNotT, xAndT, xOrT, xIfT, xYes, xOp, xUn, xTup, xLst, xCh, xLc, xDc, iA, itemsD, gN, gT, gsC, gsN, sFor, sAsg, isB, iiG0, lenG, listG, tupG, leG, ltG, geG, gtG, intG, Ps.wp, wipeO, xP, xE, cP, cE, isSc, List.map_cons, List.map_nil, List.cons_append, List.nil_append, List.length_cons, List.length_nil, List.getElem?_cons_zero, List.getElem?_cons_succ, List.replicate, List.set_cons_zero, List.set_cons_succ, Nat.reduceSub, Nat.reduceAdd, if_true, if_false, Bool.false_eq_true, reduceCtorEq, truD, Bool.not_true, Bool.not_false, Option.map_some, at0, at1, at2, eqI, neI, true_and, and_true, implies_true, ne_eq, not_false_eq_true, Nat.reduceEqDiff, Bool.not_true]
        exact ⟨by rw [List.length_map, sizeLine_eq]; omega, go y ⟨m4 y hy, fun ms' z => by cases z; exact hy⟩ _ _⟩
end Q
namespace Q
open PySem L2 PySem.Spec PyProof.Rows
variable {K : PySem.W.Frag} {cs : Cs} {E : EF} {R : List Cell} {Q : O → List Cell → Prop} {n : Nat} {t : Tab} {sc : List Tab}
theorem eqvAll_strs : ∀ xs ys : List Str, PyData.eqvAll (xs.map PyData.str) (ys.map PyData.str) = decide (xs = ys)
  | [], [] => by simp [PyData.eqvAll]
  | [], _ :: _ => by simp [PyData.eqvAll]
  | _ :: _, [] => by simp [PyData.eqvAll]
  | x :: xs, y :: ys => by
    rw [List.map_cons, List.map_cons]
    unfold PyData.eqvAll
    rw [eqv_str, eqvAll_strs xs ys]
    by_cases h1 : x = y <;> by_cases h2 : xs = ys <;> simp [h1, h2]
theorem eqv_tstrs (xs ys : List Str) : PyData.eqv (.tuple (xs.map PyData.str)) (.tuple (ys.map PyData.str)) = decide (xs = ys) := by
  unfold PyData.eqv
  exact eqvAll_strs xs ys
theorem shaped_tstrs {xs : List Str} (h : ∀ x ∈ xs, PyData.strOk x = true) : SeqAt.shaped (.tuple (xs.map PyData.str)) = true := by
  unfold SeqAt.shaped PyData.canLay0 PyData.depth
  rw [canLay_strs h, depth_strs]
  rfl
def rowP (r : List Str) : PyData := .tuple (r.map PyData.str)
theorem toP_row (r : List Str) : toP (rowD r) = some (rowP r) := by
  unfold rowD rowP toP
  rw [toPs_strs]
theorem toPs_rows : ∀ rs : List (List Str), toPs (rs.map rowD) = some (rs.map rowP)
  | [] => rfl
  | r :: rs => by rw [List.map_cons, toPs, toP_row, toPs_rows rs]; rfl
theorem canLay_rows : ∀ {rs : List (List Str)}, (∀ r ∈ rs, ∀ x ∈ r, PyData.strOk x = true) → PyData.canLayAll0 (rs.map rowP) = true
  | [], _ => rfl
  | r :: rs, h => by
    rw [List.map_cons]
    unfold PyData.canLayAll0
    rw [canLay_rows fun r' hr => h r' (List.mem_cons_of_mem _ hr), Bool.and_true]
    unfold rowP PyData.canLay0
    exact canLay_strs (h r List.mem_cons_self)
theorem depth_row (r : List Str) : PyData.depth (rowP r) = 1 := by
  unfold rowP PyData.depth
  rw [depth_strs]
theorem depth_rows : ∀ rs : List (List Str), PyData.depthAll (rs.map rowP) ≤ 1
  | [] => Nat.zero_le _
  | r :: rs => by
    rw [List.map_cons]
    unfold PyData.depthAll
    rw [depth_row]
    exact Nat.max_le.mpr ⟨Nat.le_refl _, depth_rows rs⟩
theorem shaped_rows {rs : List (List Str)} (h : ∀ r ∈ rs, ∀ x ∈ r, PyData.strOk x = true) : SeqAt.shaped (.list (rs.map rowP)) = true := by
  unfold SeqAt.shaped PyData.canLay0 PyData.depth
  rw [canLay_rows h, Bool.true_and]
  have := depth_rows rs
  exact decide_eq_true (by omega)
theorem anyEq_rows (r : List Str) : ∀ rs : List (List Str), ((rs.map rowP).any fun z => PyData.eqv z (rowP r)) = decide (r ∈ rs)
  | [] => rfl
  | m :: ns => by
    rw [List.map_cons, List.any_cons, anyEq_rows r ns]
    unfold rowP
    rw [eqv_tstrs]
    by_cases h : m = r
    · subst h; simp
    · simp [h, Ne.symm h]
theorem inG_rows (neg : Bool) {r : List Str} {rs : List (List Str)} (hr : ∀ x ∈ r, PyData.strOk x = true) (hs : ∀ r ∈ rs, ∀ x ∈ r, PyData.strOk x = true) : inG neg (rowD r) (.lst (rs.map rowD)) = some (.d (.bl (if neg then !decide (r ∈ rs) else decide (r ∈ rs)))) := by
  have e : inG neg (rowD r) (.lst (rs.map rowD)) = (match toP (rowD r), toPs (rs.map rowD) with
    | some p, some ps => if SeqAt.shaped p && SeqAt.shaped (.list ps) then some (O.d (.bl (if neg then !(ps.any fun z => PyData.eqv z p) else ps.any fun z => PyData.eqv z p))) else none
    | _, _ => none) := rfl
  rw [e, toP_row, toPs_rows]
  show (if (SeqAt.shaped (rowP r) && SeqAt.shaped (.list (rs.map rowP))) = true then _ else _) = _
  rw [shaped_rows hs, show SeqAt.shaped (rowP r) = true from shaped_tstrs hr, anyEq_rows]
  rfl
/-- the first of equal ones -/
def firsts (rs : List (List Str)) : List (List Str) := ((List.range rs.length).filter fun i => !decide (rs.getD i [] ∈ rs.take i)).map fun i => rs.getD i []
theorem getD_at {rs : List (List Str)} {i : Nat} (h : i < rs.length) : rs.getD i [] = rs[i] := by
  rw [List.getD_eq_getElem?_getD, List.getElem?_eq_getElem h]
  rfl
theorem firsts_mem {rs : List (List Str)} {r : List Str} (h : r ∈ firsts rs) : r ∈ rs := by
  obtain ⟨i, hi, rfl⟩ := List.mem_map.mp h
  have := List.mem_range.mp (List.mem_filter.mp hi).1
  rw [getD_at this]
  exact List.getElem_mem this
theorem firsts_nd (rs : List (List Str)) : (firsts rs).Nodup := by
  unfold firsts
  refine nodup_map_on (List.Nodup.sublist List.filter_sublist List.nodup_range) fun i hi j hj e => ?_
  have hi1 := List.mem_range.mp (List.mem_filter.mp hi).1
  have hj1 := List.mem_range.mp (List.mem_filter.mp hj).1
  have hi2 := (List.mem_filter.mp hi).2
  have hj2 := (List.mem_filter.mp hj).2
  rw [getD_at hi1] at hi2 e
  rw [getD_at hj1] at hj2 e
  rcases Nat.lt_trichotomy i j with z | z | z
  · have : rs[j] ∈ rs.take j := List.mem_take_iff_getElem.mpr ⟨i, by omega, e⟩
    rw [decide_eq_true this] at hj2
    cases hj2
  · exact z
  · have : rs[i] ∈ rs.take i := List.mem_take_iff_getElem.mpr ⟨j, by omega, e.symm⟩
    rw [decide_eq_true this] at hi2
    cases hi2
theorem firsts_len (rs : List (List Str)) : (firsts rs).length ≤ rs.length := by
  unfold firsts
  rw [List.length_map]
  exact Nat.le_trans (List.length_filter_le _ _) (by rw [List.length_range]; exact Nat.le_refl _)
theorem w_rows_drawn (g : GoodS sc) {ns : List Str} (hns : ∀ x ∈ ns, wordB x = true) (hn0 : ns ≠ []) (hnl : ns.length ≤ 100) {m : Nat} (hm : m ≤ 50) (hn : n + 1000 < 2 ^ 60) (h : ∀ rf, RowsOk sc rf → (∀ t ∈ sc, (rf t.1).length ≤ m) → ∀ n', n' ≤ n + 1000 → Q (.d (.dK (rowsL sc rf))) (.pen n' :: R)) : m__law_rows_drawn K cs [.cell 0, scD sc, .lst (ns.map D.str), .int m] E (.pen n :: R) Q := by
  have l4 := g.l4
  unfold m__law_rows_drawn b__law_rows_drawn
  simp only [mk, st0, List.map_cons, List.map_nil, List.cons_append, List.nil_append, List.length_cons, List.length_nil, Nat.reduceSub, Nat.reduceAdd, List.replicate]
  refine seq_go fun N1 h1 => ?_
  simp only [mk, sRet, sRetN, sSeq, sNx, sIf, sSet, sSetO, sEx, xU, xF, xB, xCons, xNil, xV, xC, xMv, st0, opt, looks, look, frz, frzs, isiG, tyG, clsG, clssG, O.toD, xAnd, xOr, xNot, xIf, xIfO, xT, xTO, xNotT, xAndT, xOrT, xIfT, xYes, xOp, xUn, xTup, xLst, xCh, xLc, xDc, iA, itemsD, gN, gT, gsC, gsN, sFor, sAsg, isB, iiG0, lenG, listG, tupG, leG, ltG, geG, gtG, intG, Ps.wp, wipeO, xP, xE, cP, cE, isSc, List.map_cons, List.map_nil, List.cons_append, List.nil_append, List.length_cons, List.length_nil, List.getElem?_cons_zero, List.getElem?_cons_succ, List.replicate, List.set_cons_zero, List.set_cons_succ, Nat.reduceSub, Nat.reduceAdd, if_true, if_false, Bool.false_eq_true, reduceCtorEq, truD, Bool.not_true, Bool.not_false, Option.map_some, at0, at1, at2, eqI, neI, true_and, and_true, implies_true, ne_eq, not_false_eq_true, Nat.reduceEqDiff, xNewK]
  refine h1 _ (seq_go fun N2 h2 => ?_)
  simp only [mk, sRet, sRetN, sSeq, sNx, sIf, sSet, sSetO, sEx, xU, xF, xB, xCons, xNil, xV, xC, xMv, st0, opt, looks, look, frz, frzs, isiG, tyG, clsG, clssG, O.toD, xAnd, xOr, xNot, xIf, xIfO, xT, xTO, xNotT, xAndT, xOrT, xIfT, xYes, xOp, xUn, xTup, xLst, xCh, xLc, xDc, iA, itemsD, gN, gT, gsC, gsN, sFor, sAsg, isB, iiG0, lenG, listG, tupG, leG, ltG, geG, gtG, intG, Ps.wp, wipeO, xP, xE, cP, cE, isSc, List.map_cons, List.map_nil, List.cons_append, List.nil_append, List.length_cons, List.length_nil, List.getElem?_cons_zero, List.getElem?_cons_succ, List.replicate, List.set_cons_zero, List.set_cons_succ, Nat.reduceSub, Nat.reduceAdd, if_true, if_false, Bool.false_eq_true, reduceCtorEq, truD, Bool.not_true, Bool.not_false, Option.map_some, at0, at1, at2, eqI, neI, true_and, and_true, implies_true, ne_eq, not_false_eq_true, Nat.reduceEqDiff, scD]
  refine forW_by (fun ds st => ∃ (pre post : List Tab) (rf : Str → List (List Str)) (n' : Nat) (o5 o6 o7 o8 : O), sc = pre ++ post ∧ ds = post.map plD ∧ RowsOk pre rf ∧ (∀ t ∈ pre, (rf t.1).length ≤ m) ∧ n' ≤ n + 200 * pre.length ∧ st = ⟨[.d (.cell 0), .d (.lst (sc.map plD)), .d (.lst (ns.map D.str)), .d (.int m), .dK (rowsL pre rf), o5, o6, o7, o8], .pen n' :: R, true, false⟩) ?_ ?_ _ _ ⟨[], sc, fun _ => [], n, .un, .un, .un, .un, rfl, rfl, ⟨fun _ z => absurd z List.not_mem_nil, fun _ z => absurd z List.not_mem_nil, fun _ z => absurd z List.not_mem_nil⟩, fun _ z => absurd z List.not_mem_nil, Nat.le_refl _, rfl⟩
  · rintro st ⟨pre, post, rf, n', o5, o6, o7, o8, e1, e2, e3, e4, e5, rfl⟩
    have : post = [] := by cases post with | nil => rfl | cons _ _ => cases e2
    subst this
    rw [List.append_nil] at e1
    subst e1
    refine h2 _ ?_
    simp only [mk, sRet, sRetN, sSeq, sNx, sIf, sSet, sSetO, sEx, xU, xF, xB, xCons, xNil, xV, xC, xMv, st0, opt, looks, look, frz, frzs, isiG, tyG, clsG, clssG, O.toD, xAnd, xOr, xNot, xIf, xIfO, xT, xTO, xNotT, xAndT, xOrT, xIfT, xYes, xOp, xUn, xTup, xLst, xCh, xLc, xDc, iA, itemsD, gN, gT, gsC, gsN, sFor, sAsg, isB, iiG0, lenG, listG, tupG, leG, ltG, geG, gtG, intG, Ps.wp, wipeO, xP, xE, cP, cE, isSc, List.map_cons, List.map_nil, List.cons_append, List.nil_append, List.length_cons, List.length_nil, List.getElem?_cons_zero, List.getElem?_cons_succ, List.replicate, List.set_cons_zero, List.set_cons_succ, Nat.reduceSub, Nat.reduceAdd, if_true, if_false, Bool.false_eq_true, reduceCtorEq, truD, Bool.not_true, Bool.not_false, Option.map_some, at0, at1, at2, eqI, neI, true_and, and_true, implies_true, ne_eq, not_false_eq_true, Nat.reduceEqDiff, Bool.not_true]
    exact h rf e3 e4 n' (by omega)
  · rintro d ds st ⟨pre, post, rf, n', o5, o6, o7, o8, e1, e2, e3, e4, e5, rfl⟩ N hN
    cases post with
    | nil => cases e2
    | cons t post =>
      cases e2
      have ht : t ∈ sc := by rw [e1]; exact List.mem_append_right _ List.mem_cons_self
      have hpl : pre.length + 1 ≤ sc.length := by rw [e1, List.length_append, List.length_cons]; omega
      have gt := g.t _ ht
      simp only [plD]
      simp only [gN, gT, gsC, gsN, xYes, if_true, true_and, and_true, List.length_cons, List.length_nil, Nat.reduceAdd, Nat.zero_add, List.set_cons_zero, List.set_cons_succ, Ps.wp, wipeO]
      refine seq_go fun N3 h3 => ?_
      simp only [mk, sRet, sRetN, sSeq, sNx, sIf, sSet, sSetO, sEx, xU, xF, xB, xCons, xNil, xV, xC, xMv, st0, opt, looks, look, frz, frzs, isiG, tyG, clsG, clssG, O.toD, xAnd, xOr, xNot, xIf, xIfO, xT, xTO, xNotT, xAndT, xOrT, xIfT, xYes, xOp, xUn, xTup, xLst, xCh, xLc, xDc, iA, itemsD, gN, gT, gsC, gsN, sFor, sAsg, isB, iiG0, lenG, listG, tupG, leG, ltG, geG, gtG, intG, Ps.wp, wipeO, xP, xE, cP, cE, isSc, List.map_cons, List.map_nil, List.cons_append, List.nil_append, List.length_cons, List.length_nil, List.getElem?_cons_zero, List.getElem?_cons_succ, List.replicate, List.set_cons_zero, List.set_cons_succ, Nat.reduceSub, Nat.reduceAdd, if_true, if_false, Bool.false_eq_true, reduceCtorEq, truD, Bool.not_true, Bool.not_false, Option.map_some, at0, at1, at2, eqI, neI, true_and, and_true, implies_true, ne_eq, not_false_eq_true, Nat.reduceEqDiff, addI, iR1]
      refine w_draw (m := m + 1) (by omega) (by omega) (by omega) fun k hk => ?_
      simp only [mk, sRet, sRetN, sSeq, sNx, sIf, sSet, sSetO, sEx, xU, xF, xB, xCons, xNil, xV, xC, xMv, st0, opt, looks, look, frz, frzs, isiG, tyG, clsG, clssG, O.toD, xAnd, xOr, xNot, xIf, xIfO, xT, xTO, xNotT, xAndT, xOrT, xIfT, xYes, xOp, xUn, xTup, xLst, xCh, xLc, xDc, iA, itemsD, gN, gT, gsC, gsN, sFor, sAsg, isB, iiG0, lenG, listG, tupG, leG, ltG, geG, gtG, intG, Ps.wp, wipeO, xP, xE, cP, cE, isSc, List.map_cons, List.map_nil, List.cons_append, List.nil_append, List.length_cons, List.length_nil, List.getElem?_cons_zero, List.getElem?_cons_succ, List.replicate, List.set_cons_zero, List.set_cons_succ, Nat.reduceSub, Nat.reduceAdd, if_true, if_false, Bool.false_eq_true, reduceCtorEq, truD, Bool.not_true, Bool.not_false, Option.map_some, at0, at1, at2, eqI, neI, true_and, and_true, implies_true, ne_eq, not_false_eq_true, Nat.reduceEqDiff, Bool.not_true]
      refine ⟨⟨by omega, by omega⟩, ?_⟩
      refine lcW_by (fun ds acc st => ∃ (rs : List (List Str)) (o8 : O) (n2 : Nat), acc = rs.map rowD ∧ (∀ r ∈ rs, rowOk t.2 r) ∧ rs.length + ds.length = k ∧ n2 ≤ n' + 1 + 3 * rs.length ∧ st = ⟨[.d (.cell 0), .d (.lst (sc.map plD)), .d (.lst (ns.map D.str)), .d (.int m), .dK (rowsL pre rf), .d (.str t.1), .d (.lst (t.2.map colD)), o7, o8], .pen n2 :: R, true, false⟩) ?_ ?_ _ _ _ ⟨[], o8, n' + 1, rfl, fun _ z => absurd z List.not_mem_nil, ?_, Nat.le_refl _, rfl⟩
      rotate_left
      · rintro d ds acc st ⟨rs, o8, n2, rfl, f2, f3, f4, rfl⟩ R' hR
        rw [List.length_cons] at f3
        simp only [mk, sRet, sRetN, sSeq, sNx, sIf, sSet, sSetO, sEx, xU, xF, xB, xCons, xNil, xV, xC, xMv, st0, opt, looks, look, frz, frzs, isiG, tyG, clsG, clssG, O.toD, xAnd, xOr, xNot, xIf, xIfO, xT, xTO, xNotT, xAndT, xOrT, xIfT, xYes, xOp, xUn, xTup, xLst, xCh, xLc, xDc, iA, itemsD, gN, gT, gsC, gsN, sFor, sAsg, isB, iiG0, lenG, listG, tupG, leG, ltG, geG, gtG, intG, Ps.wp, wipeO, xP, xE, cP, cE, isSc, List.map_cons, List.map_nil, List.cons_append, List.nil_append, List.length_cons, List.length_nil, List.getElem?_cons_zero, List.getElem?_cons_succ, List.replicate, List.set_cons_zero, List.set_cons_succ, Nat.reduceSub, Nat.reduceAdd, if_true, if_false, Bool.false_eq_true, reduceCtorEq, truD, Bool.not_true, Bool.not_false, Option.map_some, at0, at1, at2, eqI, neI, true_and, and_true, implies_true, ne_eq, not_false_eq_true, Nat.reduceEqDiff, Bool.not_true]
        refine w_row_drawn gt hns hn0 hnl (by omega) fun r hr n3 hn3 => ?_
        simp only [mk, sRet, sRetN, sSeq, sNx, sIf, sSet, sSetO, sEx, xU, xF, xB, xCons, xNil, xV, xC, xMv, st0, opt, looks, look, frz, frzs, isiG, tyG, clsG, clssG, O.toD, xAnd, xOr, xNot, xIf, xIfO, xT, xTO, xNotT, xAndT, xOrT, xIfT, xYes, xOp, xUn, xTup, xLst, xCh, xLc, xDc, iA, itemsD, gN, gT, gsC, gsN, sFor, sAsg, isB, iiG0, lenG, listG, tupG, leG, ltG, geG, gtG, intG, Ps.wp, wipeO, xP, xE, cP, cE, isSc, List.map_cons, List.map_nil, List.cons_append, List.nil_append, List.length_cons, List.length_nil, List.getElem?_cons_zero, List.getElem?_cons_succ, List.replicate, List.set_cons_zero, List.set_cons_succ, Nat.reduceSub, Nat.reduceAdd, if_true, if_false, Bool.false_eq_true, reduceCtorEq, truD, Bool.not_true, Bool.not_false, Option.map_some, at0, at1, at2, eqI, neI, true_and, and_true, implies_true, ne_eq, not_false_eq_true, Nat.reduceEqDiff, Bool.not_true]
        refine ⟨by rw [List.length_map, sizeLine_eq]; omega, hR _ _ ⟨rs ++ [r], .d d, n3, by rw [List.map_append]; rfl, ?_, ?_, ?_, rfl⟩⟩
        · intro r' hr'
          rcases List.mem_append.mp hr' with z | z
          · exact f2 r' z
          · rw [List.mem_singleton.mp z]; exact hr
        · rw [List.length_append, List.length_singleton]; omega
        · rw [List.length_append, List.length_singleton]; omega
      · rw [rng_len, List.length_nil, Nat.zero_add]
      rintro acc st ⟨rs, o8, n2, rfl, f2, f3, f4, rfl⟩
      rw [List.length_nil, Nat.add_zero] at f3
      simp only [mk, sRet, sRetN, sSeq, sNx, sIf, sSet, sSetO, sEx, xU, xF, xB, xCons, xNil, xV, xC, xMv, st0, opt, looks, look, frz, frzs, isiG, tyG, clsG, clssG, O.toD, xAnd, xOr, xNot, xIf, xIfO, xT, xTO, xNotT, xAndT, xOrT, xIfT, xYes, xOp, xUn, xTup, xLst, xCh, xLc, xDc, iA, itemsD, gN, gT, gsC, gsN, sFor, sAsg, isB, iiG0, lenG, listG, tupG, leG, ltG, geG, gtG, intG, Ps.wp, wipeO, xP, xE, cP, cE, isSc, List.map_cons, List.map_nil, List.cons_append, List.nil_append, List.length_cons, List.length_nil, List.getElem?_cons_zero, List.getElem?_cons_succ, List.replicate, List.set_cons_zero, List.set_cons_succ, Nat.reduceSub, Nat.reduceAdd, if_true, if_false, Bool.false_eq_true, reduceCtorEq, truD, Bool.not_true, Bool.not_false, Option.map_some, at0, at1, at2, eqI, neI, true_and, and_true, implies_true, ne_eq, not_false_eq_true, Nat.reduceEqDiff, Bool.not_true]
      refine h3 _ ?_
      simp only [mk, sRet, sRetN, sSeq, sNx, sIf, sSet, sSetO, sEx, xU, xF, xB, xCons, xNil, xV, xC, xMv, st0, opt, looks, look, frz, frzs, isiG, tyG, clsG, clssG, O.toD, xAnd, xOr, xNot, xIf, xIfO, xT, xTO, xNotT, xAndT, xOrT, xIfT, xYes, xOp, xUn, xTup, xLst, xCh, xLc, xDc, iA, itemsD, gN, gT, gsC, gsN, sFor, sAsg, isB, iiG0, lenG, listG, tupG, leG, ltG, geG, gtG, intG, Ps.wp, wipeO, xP, xE, cP, cE, isSc, List.map_cons, List.map_nil, List.cons_append, List.nil_append, List.length_cons, List.length_nil, List.getElem?_cons_zero, List.getElem?_cons_succ, List.replicate, List.set_cons_zero, List.set_cons_succ, Nat.reduceSub, Nat.reduceAdd, if_true, if_false, Bool.false_eq_true, reduceCtorEq, truD, Bool.not_true, Bool.not_false, Option.map_some, at0, at1, at2, eqI, neI, true_and, and_true, implies_true, ne_eq, not_false_eq_true, Nat.reduceEqDiff, sDput, iR1, List.length_map]
      refine ⟨⟨by omega, by omega⟩, ?_⟩
      have fo : ∀ r ∈ rs, ∀ x ∈ r, PyData.strOk x = true := fun r hr x hx => word_ok (rowOk_words (f2 r hr) x hx)
      refine lcW_pure (st0 := ⟨[.d (.cell 0), .d (.lst (sc.map plD)), .d (.lst (ns.map D.str)), .d (.int m), .dK (rowsL pre rf), .d (.str t.1), .d (.lst (t.2.map colD)), .d (.lst (rs.map rowD)), .un], .pen n2 :: R, true, false⟩) (fun d => match d with | .int i => if (!decide (rs.getD i.toNat [] ∈ rs.take i.toNat)) = true then some (rowD (rs.getD i.toNat [])) else none | _ => none) _ _ _ rfl ?_ ?_ ?_
      · rw [rng_len, sizeLine_eq, List.length_nil]; omega
      · intro d hd R1 R0 hR
        obtain ⟨i, hi, rfl⟩ := rng_mem hd
        have hR' := hR ⟨[.d (.cell 0), .d (.lst (sc.map plD)), .d (.lst (ns.map D.str)), .d (.int m), .dK (rowsL pre rf), .d (.str t.1), .d (.lst (t.2.map colD)), .d (.lst (rs.map rowD)), .d (.int (i : Int))], .pen n2 :: R, true, false⟩ rfl
        simp only [Int.toNat_natCast, getD_at hi] at hR'
        have e6 : ixD (.lst (rs.map rowD)) (.int (i : Int)) = some (.d (rowD rs[i])) := by
          show (atI _ _).map O.d = _
          rw [atI_nat (v := rowD rs[i]) (by rw [List.getElem?_map, List.getElem?_eq_getElem hi]; rfl)]
          rfl
        have e7 : cutD (rs.map rowD) none (some (i : Int)) = (rs.take i).map rowD := by rw [cutD_take, List.map_take]
        simp only [mk, sRet, sRetN, sSeq, sNx, sIf, sSet, sSetO, sEx, xU, xF, xB, xCons, xNil, xV, xC, xMv, st0, opt, looks, look, frz, frzs, isiG, tyG, clsG, clssG, O.toD, xAnd, xOr, xNot, xIf, xIfO, xT, xTO, xNotT, xAndT, xOrT, xIfT, xYes, xOp, xUn, xTup, xLst, xCh, xLc, xDc, iA, itemsD, gN, gT, gsC, gsN, sFor, sAsg, isB, iiG0, lenG, listG, tupG, leG, ltG, geG, gtG, intG, Ps.wp, wipeO, xP, xE, cP, cE, isSc, List.map_cons, List.map_nil, List.cons_append, List.nil_append, List.length_cons, List.length_nil, List.getElem?_cons_zero, List.getElem?_cons_succ, List.replicate, List.set_cons_zero, List.set_cons_succ, Nat.reduceSub, Nat.reduceAdd, if_true, if_false, Bool.false_eq_true, reduceCtorEq, truD, Bool.not_true, Bool.not_false, Option.map_some, at0, at1, at2, eqI, neI, true_and, and_true, implies_true, ne_eq, not_false_eq_true, Nat.reduceEqDiff, pNo, pSo, xSl, slD, e6, e7, inG_rows true (fo _ (List.getElem_mem hi)) (fun r hr => fo r (List.mem_of_mem_take hr))]
        by_cases z : rs[i] ∈ rs.take i
        · simp only [z, decide_true, Bool.not_true, Bool.false_eq_true, if_false] at hR' ⊢
          exact hR'
        · simp only [z, decide_false, Bool.not_false, if_true] at hR' ⊢
          exact hR'
      · have e8 : (rngD 0 ((rs.length : Nat) : Int).toNat).filterMap (fun d => match d with | .int i => if (!decide (rs.getD i.toNat [] ∈ rs.take i.toNat)) = true then some (rowD (rs.getD i.toNat [])) else none | _ => none) = (firsts rs).map rowD := by
          unfold rngD firsts
          rw [List.filterMap_map, Int.toNat_natCast, List.map_map]
          generalize List.range rs.length = xs
          induction xs with
          | nil => rfl
          | cons x xs ih =>
            rw [List.filterMap_cons, List.filter_cons, ih]
            simp only [Function.comp, Int.zero_add, Int.toNat_natCast]
            cases z : (!decide (rs.getD x [] ∈ rs.take x)) with
            | true => simp only [if_true, List.map_cons]; rfl
            | false => simp only [Bool.false_eq_true, if_false]
        rw [List.nil_append, e8]
        have hkn : (Sum.inr t.1 : Key) ∉ (rowsL pre rf).map (·.1) := by
          intro z
          unfold rowsL at z
          rw [List.map_map] at z
          obtain ⟨t', ht', e'⟩ := List.mem_map.mp z
          have e'' : t'.1 = t.1 := Sum.inr.inj e'
          have nd := g.nd
          rw [e1, List.map_append, List.map_cons] at nd
          exact (List.nodup_append.mp nd).2.2 _ (List.mem_map.mpr ⟨t', ht', rfl⟩) _ List.mem_cons_self e''
        have e9 : putD (rowsL pre rf) (Sum.inr t.1 : Key) (.lst ((firsts rs).map rowD)) = rowsL (pre ++ [t]) (fun s => if s = t.1 then firsts rs else rf s) := by
          rw [putD_new hkn]
          unfold rowsL
          rw [List.map_append]
          congr 1
          · refine List.map_congr_left fun t' ht' => ?_
            have : t'.1 ≠ t.1 := fun z => hkn (by unfold rowsL; rw [List.map_map]; exact List.mem_map.mpr ⟨t', ht', congrArg Sum.inr z⟩)
            simp only [if_neg this]
          · simp
        simp only [mk, sRet, sRetN, sSeq, sNx, sIf, sSet, sSetO, sEx, xU, xF, xB, xCons, xNil, xV, xC, xMv, st0, opt, looks, look, frz, frzs, isiG, tyG, clsG, clssG, O.toD, xAnd, xOr, xNot, xIf, xIfO, xT, xTO, xNotT, xAndT, xOrT, xIfT, xYes, xOp, xUn, xTup, xLst, xCh, xLc, xDc, iA, itemsD, gN, gT, gsC, gsN, sFor, sAsg, isB, iiG0, lenG, listG, tupG, leG, ltG, geG, gtG, intG, Ps.wp, wipeO, xP, xE, cP, cE, isSc, List.map_cons, List.map_nil, List.cons_append, List.nil_append, List.length_cons, List.length_nil, List.getElem?_cons_zero, List.getElem?_cons_succ, List.replicate, List.set_cons_zero, List.set_cons_succ, Nat.reduceSub, Nat.reduceAdd, if_true, if_false, Bool.false_eq_true, reduceCtorEq, truD, Bool.not_true, Bool.not_false, Option.map_some, at0, at1, at2, eqI, neI, true_and, and_true, implies_true, ne_eq, not_false_eq_true, Nat.reduceEqDiff, dSlot, isDct, lenO, putO, keyD, e9]
        refine ⟨⟨_, rfl, rfl⟩, by unfold rowsL; rw [List.length_map, sizeLine_eq]; omega, hN _ ⟨pre ++ [t], post, fun s => if s = t.1 then firsts rs else rf s, n2, _, _, _, _, by rw [e1, List.append_assoc]; rfl, rfl, ?_, ?_, ?_, rfl⟩⟩
        · have key : ∀ t' ∈ pre ++ [t], (t'.1 = t.1 ∧ t' = t) ∨ (t'.1 ≠ t.1 ∧ t' ∈ pre) := by
            intro t' h'
            rcases List.mem_append.mp h' with z | z
            · refine .inr ⟨fun y => hkn (by unfold rowsL; rw [List.map_map]; exact List.mem_map.mpr ⟨t', z, congrArg Sum.inr y⟩), z⟩
            · have := List.mem_singleton.mp z
              exact .inl ⟨by rw [this], this⟩
          refine ⟨fun t' h' r hr => ?_, fun t' h' => ?_, fun t' h' => ?_⟩
          · rcases key t' h' with ⟨z, rfl⟩ | ⟨z, y⟩
            · simp only [if_true] at hr
              exact f2 r (firsts_mem hr)
            · simp only [if_neg z] at hr
              exact e3.ok t' y r hr
          · rcases key t' h' with ⟨z, rfl⟩ | ⟨z, y⟩
            · simp only [if_true]
              exact firsts_nd rs
            · simp only [if_neg z]
              exact e3.nd t' y
          · rcases key t' h' with ⟨z, rfl⟩ | ⟨z, y⟩
            · simp only [if_true]
              have := firsts_len rs
              omega
            · simp only [if_neg z]
              exact e3.len t' y
        · intro t' h'
          rcases List.mem_append.mp h' with z | z
          · have : t'.1 ≠ t.1 := fun y => hkn (by unfold rowsL; rw [List.map_map]; exact List.mem_map.mpr ⟨t', z, congrArg Sum.inr y⟩)
            simp only [if_neg this]
            exact e4 t' z
          · rw [List.mem_singleton.mp z]
            simp only [if_true]
            have := firsts_len rs
            omega
        · rw [List.length_append, List.length_singleton]; omega
end Q
namespace Q
open PySem L2 PySem.Spec PyProof.Rows
variable {K : PySem.W.Frag} {cs : Cs} {E : EF} {R : List Cell} {Q : O → List Cell → Prop} {n : Nat} {t : Tab} {sc : List Tab}
theorem lets_put {ls : List (Str × Lt)} {c : Str} {x : Lt} (h : c ∉ ls.map (·.1)) : putD (letsK ls) (Sum.inr c : Key) x.d = letsK (ls ++ [(c, x)]) := by
  rw [putD_new]
  · unfold letsK
    rw [List.map_append]
    rfl
  · intro z
    unfold letsK at z
    rw [List.map_map] at z
    obtain ⟨p, hp, e⟩ := List.mem_map.mp z
    exact h (List.mem_map.mpr ⟨p, hp, Sum.inr.inj e⟩)
theorem w_lets (gt : GoodT t) {ns : List Str} (hns : ∀ x ∈ ns, wordB x = true) (hnl : ns.length ≤ 20) (hn : n + 500 < 2 ^ 60) (h : ∀ ls, LetsOk t.2 ls → (ls.map (·.1)).Nodup → ls.length ≤ 3 → ∀ n', n' ≤ n + 100 → Q (.d (.dK (letsK ls))) (.pen n' :: R)) : m__law_lets K cs [.cell 0, .lst (t.2.map colD), .lst (ns.map D.str)] E (.pen n :: R) Q := by
  have l3 := gt.l3
  unfold m__law_lets b__law_lets
  simp only [mk, st0, List.map_cons, List.map_nil, List.cons_append, List.nil_append, List.length_cons, List.length_nil, Nat.reduceSub, Nat.reduceAdd, List.replicate]
  refine seq_go fun N1 h1 => ?_
  simp only [mk, sRet, sRetN, sSeq, sNx, sIf, sSet, sSetO, sEx, xU, xF, xB, xCons, xNil, xV, xC, xMv, st0, opt, looks, look, frz, frzs, isiG, tyG, clsG, clssG, O.toD, xAnd, xOr, xNot, xIf, xIfO, xT, xTO, xNotT, xAndT, xOrT, xIfT, xYes, xOp, xUn, xTup, xLst, xCh, xLc, xDc, iA, itemsD, gN, gT, gsC, gsN, sFor, sAsg, isB, iiG0, lenG, listG, tupG, leG, ltG, geG, gtG, intG, Ps.wp, wipeO, xP, xE, cP, cE, isSc, List.map_cons, List.map_nil, List.cons_append, List.nil_append, List.length_cons, List.length_nil, List.getElem?_cons_zero, List.getElem?_cons_succ, List.replicate, List.set_cons_zero, List.set_cons_succ, Nat.reduceSub, Nat.reduceAdd, if_true, if_false, Bool.false_eq_true, reduceCtorEq, truD, Bool.not_true, Bool.not_false, Option.map_some, at0, at1, at2, eqI, neI, true_and, and_true, implies_true, ne_eq, not_false_eq_true, Nat.reduceEqDiff, xNewK]
  refine h1 _ (seq_go fun N2 h2 => ?_)
  simp only [mk, sRet, sRetN, sSeq, sNx, sIf, sSet, sSetO, sEx, xU, xF, xB, xCons, xNil, xV, xC, xMv, st0, opt, looks, look, frz, frzs, isiG, tyG, clsG, clssG, O.toD, xAnd, xOr, xNot, xIf, xIfO, xT, xTO, xNotT, xAndT, xOrT, xIfT, xYes, xOp, xUn, xTup, xLst, xCh, xLc, xDc, iA, itemsD, gN, gT, gsC, gsN, sFor, sAsg, isB, iiG0, lenG, listG, tupG, leG, ltG, geG, gtG, intG, Ps.wp, wipeO, xP, xE, cP, cE, isSc, List.map_cons, List.map_nil, List.cons_append, List.nil_append, List.length_cons, List.length_nil, List.getElem?_cons_zero, List.getElem?_cons_succ, List.replicate, List.set_cons_zero, List.set_cons_succ, Nat.reduceSub, Nat.reduceAdd, if_true, if_false, Bool.false_eq_true, reduceCtorEq, truD, Bool.not_true, Bool.not_false, Option.map_some, at0, at1, at2, eqI, neI, true_and, and_true, implies_true, ne_eq, not_false_eq_true, Nat.reduceEqDiff, Bool.not_true]
  refine forW_by (fun ds st => ∃ (pre post : List Col) (ls : List (Str × Lt)) (n' : Nat) (o4 o5 o6 o7 : O), t.2 = pre ++ post ∧ ds = post.map colD ∧ LetsOk t.2 ls ∧ (ls.map (·.1)).Nodup ∧ (∀ p ∈ ls, p.1 ∈ pre.map (·.1)) ∧ ls.length ≤ pre.length ∧ n' ≤ n + 30 * pre.length ∧ st = ⟨[.d (.cell 0), .d (.lst (t.2.map colD)), .d (.lst (ns.map D.str)), .dK (letsK ls), o4, o5, o6, o7], .pen n' :: R, true, false⟩) ?_ ?_ _ _ ⟨[], t.2, [], n, .un, .un, .un, .un, rfl, rfl, ⟨fun _ z => absurd z List.not_mem_nil, fun _ z => absurd z List.not_mem_nil⟩, List.nodup_nil, fun _ z => absurd z List.not_mem_nil, Nat.le_refl _, Nat.le_refl _, rfl⟩
  · rintro st ⟨pre, post, ls, n', o4, o5, o6, o7, e1, e2, e3, e4, e5, e6, e7, rfl⟩
    have : post = [] := by cases post with | nil => rfl | cons _ _ => cases e2
    subst this
    rw [List.append_nil] at e1
    rw [← e1] at e6 e7
    refine h2 _ ?_
    simp only [mk, sRet, sRetN, sSeq, sNx, sIf, sSet, sSetO, sEx, xU, xF, xB, xCons, xNil, xV, xC, xMv, st0, opt, looks, look, frz, frzs, isiG, tyG, clsG, clssG, O.toD, xAnd, xOr, xNot, xIf, xIfO, xT, xTO, xNotT, xAndT, xOrT, xIfT, xYes, xOp, xUn, xTup, xLst, xCh, xLc, xDc, iA, itemsD, gN, gT, gsC, gsN, sFor, sAsg, isB, iiG0, lenG, listG, tupG, leG, ltG, geG, gtG, intG, Ps.wp, wipeO, xP, xE, cP, cE, isSc, List.map_cons, List.map_nil, List.cons_append, List.nil_append, List.length_cons, List.length_nil, List.getElem?_cons_zero, List.getElem?_cons_succ, List.replicate, List.set_cons_zero, List.set_cons_succ, Nat.reduceSub, Nat.reduceAdd, if_true, if_false, Bool.false_eq_true, reduceCtorEq, truD, Bool.not_true, Bool.not_false, Option.map_some, at0, at1, at2, eqI, neI, true_and, and_true, implies_true, ne_eq, not_false_eq_true, Nat.reduceEqDiff, Bool.not_true]
    exact h ls e3 e4 (by omega) n' (by omega)
  · rintro d ds st ⟨pre, post, ls, n', o4, o5, o6, o7, e1, e2, e3, e4, e5, e6, e7, rfl⟩ N hN
    cases post with
    | nil => cases e2
    | cons c post =>
      cases e2
      have hc : c ∈ t.2 := by rw [e1]; exact List.mem_append_right _ List.mem_cons_self
      have hpl : pre.length + 1 ≤ t.2.length := by rw [e1, List.length_append, List.length_cons]; omega
      have gc := gt.c c hc
      have hcn : c.1 ∉ ls.map (·.1) := by
        intro z
        obtain ⟨p, hp, e⟩ := List.mem_map.mp z
        have := e5 p hp
        rw [e] at this
        have nd := gt.nd
        rw [e1, List.map_append, List.map_cons] at nd
        exact (List.nodup_append.mp nd).2.2 _ this _ List.mem_cons_self rfl
      have go : ∀ (some_ : List Str), (∀ x ∈ some_, PyData.strOk x = true) → 1 ≤ some_.length → some_.length ≤ 25 → ∀ N3 : Ps → Prop, (∀ st', (sIf (xTO (xOp eqG (xF (xE true 2 (m__law_draw) (xCons (xV 0) (xCons (xC (.int 2)) xNil)))) (xC (.int 0)))) (sSeq (sSet 7 (xSl (xF (xE true 2 (m__law_shuffled K cs) (xCons (xV 0) (xCons (xV 6) xNil)))) pNo (pSo (xF (xE true 2 (m__law_draw) (xCons (xV 0) (xCons (xC (.int 3)) xNil)))))))
    (sDput 3 (xV 4) (xF (xE true 2 (m__law_pick K cs) (xCons (xV 0) (xCons (xF (xLst (xCons (xF (xE true 2 (m__law_pick K cs) (xCons (xV 0) (xCons (xV 6) xNil)))) (xCons (xV 7) (xCons (xF (xB tupG (xCons (xF (xOp addG (xV 7) (xV 7))) xNil))) xNil))))) xNil)))))) sNx) (fun C fs st => E C fs st.S) ⟨N, fun o st => Q o st.S, N2, N⟩ st' → N3 st') → N3 ⟨[.d (.cell 0), .d (.lst (t.2.map colD)), .d (.lst (ns.map D.str)), .dK (letsK ls), .d (.str c.1), .d (mkD c.2), .d (.lst (some_.map D.str)), o7], .pen n' :: R, true, false⟩ := by
        intro ss hss hs1 hs2 N3 h3
        refine h3 _ ?_
        simp only [sIf, xTO, xOp, xF]
        refine xE_of [.cell 0, .int 2] (evA_cons (fun _ z => by simp only [mk, sRet, sRetN, sSeq, sNx, sIf, sSet, sSetO, sEx, xU, xF, xB, xCons, xNil, xV, xC, xMv, st0, opt, looks, look, frz, frzs, isiG, tyG, clsG, clssG, O.toD, xAnd, xOr, xNot, xIf, xIfO, xT, xTO, xNotT, xAndT, xOrT, xIfT, xYes, xOp, xUn, xTup, xLst, xCh, xLc, xDc, iA, itemsD, gN, gT, gsC, gsN, sFor, sAsg, isB, iiG0, lenG, listG, tupG, leG, ltG, geG, gtG, intG, Ps.wp, wipeO, xP, xE, cP, cE, isSc, List.map_cons, List.map_nil, List.cons_append, List.nil_append, List.length_cons, List.length_nil, List.getElem?_cons_zero, List.getElem?_cons_succ, List.replicate, List.set_cons_zero, List.set_cons_succ, Nat.reduceSub, Nat.reduceAdd, if_true, if_false, Bool.false_eq_true, reduceCtorEq, truD, Bool.not_true, Bool.not_false, Option.map_some, at0, at1, at2, eqI, neI, true_and, and_true, implies_true, ne_eq, not_false_eq_true, Nat.reduceEqDiff, Bool.not_true]; exact z) (evA_cons (fun _ z => by simp only [mk, sRet, sRetN, sSeq, sNx, sIf, sSet, sSetO, sEx, xU, xF, xB, xCons, xNil, xV, xC, xMv, st0, opt, looks, look, frz, frzs, isiG, tyG, clsG, clssG, O.toD, xAnd, xOr, xNot, xIf, xIfO, xT, xTO, xNotT, xAndT, xOrT, xIfT, xYes, xOp, xUn, xTup, xLst, xCh, xLc, xDc, iA, itemsD, gN, gT, gsC, gsN, sFor, sAsg, isB, iiG0, lenG, listG, tupG, leG, ltG, geG, gtG, intG, Ps.wp, wipeO, xP, xE, cP, cE, isSc, List.map_cons, List.map_nil, List.cons_append, List.nil_append, List.length_cons, List.length_nil, List.getElem?_cons_zero, List.getElem?_cons_succ, List.replicate, List.set_cons_zero, List.set_cons_succ, Nat.reduceSub, Nat.reduceAdd, if_true, if_false, Bool.false_eq_true, reduceCtorEq, truD, Bool.not_true, Bool.not_false, Option.map_some, at0, at1, at2, eqI, neI, true_and, and_true, implies_true, ne_eq, not_false_eq_true, Nat.reduceEqDiff, Bool.not_true]; exact z) evA_nil)) (fun _ => rfl) rfl ?_
        refine w_draw (m := 2) (by omega) (by decide) (by decide) fun k hk => ?_
        simp only [mk, sRet, sRetN, sSeq, sNx, sIf, sSet, sSetO, sEx, xU, xF, xB, xCons, xNil, xV, xC, xMv, st0, opt, looks, look, frz, frzs, isiG, tyG, clsG, clssG, O.toD, xAnd, xOr, xNot, xIf, xIfO, xT, xTO, xNotT, xAndT, xOrT, xIfT, xYes, xOp, xUn, xTup, xLst, xCh, xLc, xDc, iA, itemsD, gN, gT, gsC, gsN, sFor, sAsg, isB, iiG0, lenG, listG, tupG, leG, ltG, geG, gtG, intG, Ps.wp, wipeO, xP, xE, cP, cE, isSc, List.map_cons, List.map_nil, List.cons_append, List.nil_append, List.length_cons, List.length_nil, List.getElem?_cons_zero, List.getElem?_cons_succ, List.replicate, List.set_cons_zero, List.set_cons_succ, Nat.reduceSub, Nat.reduceAdd, if_true, if_false, Bool.false_eq_true, reduceCtorEq, truD, Bool.not_true, Bool.not_false, Option.map_some, at0, at1, at2, eqI, neI, true_and, and_true, implies_true, ne_eq, not_false_eq_true, Nat.reduceEqDiff, Bool.not_true]
        by_cases hk0 : ((k : Nat) : Int) = 0
        · simp only [hk0, decide_true, if_true]
          simp only [xSl, xF]
          refine xE_of [.cell 0, .lst (ss.map D.str)] (evA_cons (fun _ z => by simp only [mk, sRet, sRetN, sSeq, sNx, sIf, sSet, sSetO, sEx, xU, xF, xB, xCons, xNil, xV, xC, xMv, st0, opt, looks, look, frz, frzs, isiG, tyG, clsG, clssG, O.toD, xAnd, xOr, xNot, xIf, xIfO, xT, xTO, xNotT, xAndT, xOrT, xIfT, xYes, xOp, xUn, xTup, xLst, xCh, xLc, xDc, iA, itemsD, gN, gT, gsC, gsN, sFor, sAsg, isB, iiG0, lenG, listG, tupG, leG, ltG, geG, gtG, intG, Ps.wp, wipeO, xP, xE, cP, cE, isSc, List.map_cons, List.map_nil, List.cons_append, List.nil_append, List.length_cons, List.length_nil, List.getElem?_cons_zero, List.getElem?_cons_succ, List.replicate, List.set_cons_zero, List.set_cons_succ, Nat.reduceSub, Nat.reduceAdd, if_true, if_false, Bool.false_eq_true, reduceCtorEq, truD, Bool.not_true, Bool.not_false, Option.map_some, at0, at1, at2, eqI, neI, true_and, and_true, implies_true, ne_eq, not_false_eq_true, Nat.reduceEqDiff, Bool.not_true]; exact z) (evA_cons (fun _ z => by simp only [mk, sRet, sRetN, sSeq, sNx, sIf, sSet, sSetO, sEx, xU, xF, xB, xCons, xNil, xV, xC, xMv, st0, opt, looks, look, frz, frzs, isiG, tyG, clsG, clssG, O.toD, xAnd, xOr, xNot, xIf, xIfO, xT, xTO, xNotT, xAndT, xOrT, xIfT, xYes, xOp, xUn, xTup, xLst, xCh, xLc, xDc, iA, itemsD, gN, gT, gsC, gsN, sFor, sAsg, isB, iiG0, lenG, listG, tupG, leG, ltG, geG, gtG, intG, Ps.wp, wipeO, xP, xE, cP, cE, isSc, List.map_cons, List.map_nil, List.cons_append, List.nil_append, List.length_cons, List.length_nil, List.getElem?_cons_zero, List.getElem?_cons_succ, List.replicate, List.set_cons_zero, List.set_cons_succ, Nat.reduceSub, Nat.reduceAdd, if_true, if_false, Bool.false_eq_true, reduceCtorEq, truD, Bool.not_true, Bool.not_false, Option.map_some, at0, at1, at2, eqI, neI, true_and, and_true, implies_true, ne_eq, not_false_eq_true, Nat.reduceEqDiff, Bool.not_true]; exact z) evA_nil)) (fun _ => rfl) rfl ?_
          refine w_shuffled hss (by omega) (by omega) fun ys hys => ?_
          simp only [mk, sRet, sRetN, sSeq, sNx, sIf, sSet, sSetO, sEx, xU, xF, xB, xCons, xNil, xV, xC, xMv, st0, opt, looks, look, frz, frzs, isiG, tyG, clsG, clssG, O.toD, xAnd, xOr, xNot, xIf, xIfO, xT, xTO, xNotT, xAndT, xOrT, xIfT, xYes, xOp, xUn, xTup, xLst, xCh, xLc, xDc, iA, itemsD, gN, gT, gsC, gsN, sFor, sAsg, isB, iiG0, lenG, listG, tupG, leG, ltG, geG, gtG, intG, Ps.wp, wipeO, xP, xE, cP, cE, isSc, List.map_cons, List.map_nil, List.cons_append, List.nil_append, List.length_cons, List.length_nil, List.getElem?_cons_zero, List.getElem?_cons_succ, List.replicate, List.set_cons_zero, List.set_cons_succ, Nat.reduceSub, Nat.reduceAdd, if_true, if_false, Bool.false_eq_true, reduceCtorEq, truD, Bool.not_true, Bool.not_false, Option.map_some, at0, at1, at2, eqI, neI, true_and, and_true, implies_true, ne_eq, not_false_eq_true, Nat.reduceEqDiff, pNo, pSo]
          refine w_draw (m := 3) (by omega) (by decide) (by decide) fun k3 hk3 => ?_
          have hcut : cutD (ys.map D.str) none (some (k3 : Int)) = (ys.take k3).map D.str := by rw [cutD_take, List.map_take]
          simp only [mk, sRet, sRetN, sSeq, sNx, sIf, sSet, sSetO, sEx, xU, xF, xB, xCons, xNil, xV, xC, xMv, st0, opt, looks, look, frz, frzs, isiG, tyG, clsG, clssG, O.toD, xAnd, xOr, xNot, xIf, xIfO, xT, xTO, xNotT, xAndT, xOrT, xIfT, xYes, xOp, xUn, xTup, xLst, xCh, xLc, xDc, iA, itemsD, gN, gT, gsC, gsN, sFor, sAsg, isB, iiG0, lenG, listG, tupG, leG, ltG, geG, gtG, intG, Ps.wp, wipeO, xP, xE, cP, cE, isSc, List.map_cons, List.map_nil, List.cons_append, List.nil_append, List.length_cons, List.length_nil, List.getElem?_cons_zero, List.getElem?_cons_succ, List.replicate, List.set_cons_zero, List.set_cons_succ, Nat.reduceSub, Nat.reduceAdd, if_true, if_false, Bool.false_eq_true, reduceCtorEq, truD, Bool.not_true, Bool.not_false, Option.map_some, at0, at1, at2, eqI, neI, true_and, and_true, implies_true, ne_eq, not_false_eq_true, Nat.reduceEqDiff, slD, hcut]
          have hyl := hys.length_eq
          have hfew : (ys.take k3).length ≤ 25 := by rw [List.length_take]; omega
          have hfo : ∀ x ∈ ys.take k3, PyData.strOk x = true := fun x hx => hss x (hys.mem_iff.mp (List.mem_of_mem_take hx))
          have hadd : addG (.lst ((ys.take k3).map D.str)) (.lst ((ys.take k3).map D.str)) = some (.lst ((ys.take k3 ++ ys.take k3).map D.str)) := by rw [addL (by rw [List.length_map]; omega), List.map_append]
          simp only [sDput, xF, xE, xCons]
          simp only [xV, List.getElem?_cons_zero, xLst, xCons, xF]
          refine xE_of [.cell 0, .lst (ss.map D.str)] (evA_cons (fun _ z => by simp only [mk, sRet, sRetN, sSeq, sNx, sIf, sSet, sSetO, sEx, xU, xF, xB, xCons, xNil, xV, xC, xMv, st0, opt, looks, look, frz, frzs, isiG, tyG, clsG, clssG, O.toD, xAnd, xOr, xNot, xIf, xIfO, xT, xTO, xNotT, xAndT, xOrT, xIfT, xYes, xOp, xUn, xTup, xLst, xCh, xLc, xDc, iA, itemsD, gN, gT, gsC, gsN, sFor, sAsg, isB, iiG0, lenG, listG, tupG, leG, ltG, geG, gtG, intG, Ps.wp, wipeO, xP, xE, cP, cE, isSc, List.map_cons, List.map_nil, List.cons_append, List.nil_append, List.length_cons, List.length_nil, List.getElem?_cons_zero, List.getElem?_cons_succ, List.replicate, List.set_cons_zero, List.set_cons_succ, Nat.reduceSub, Nat.reduceAdd, if_true, if_false, Bool.false_eq_true, reduceCtorEq, truD, Bool.not_true, Bool.not_false, Option.map_some, at0, at1, at2, eqI, neI, true_and, and_true, implies_true, ne_eq, not_false_eq_true, Nat.reduceEqDiff, Bool.not_true]; exact z) (evA_cons (fun _ z => by simp only [mk, sRet, sRetN, sSeq, sNx, sIf, sSet, sSetO, sEx, xU, xF, xB, xCons, xNil, xV, xC, xMv, st0, opt, looks, look, frz, frzs, isiG, tyG, clsG, clssG, O.toD, xAnd, xOr, xNot, xIf, xIfO, xT, xTO, xNotT, xAndT, xOrT, xIfT, xYes, xOp, xUn, xTup, xLst, xCh, xLc, xDc, iA, itemsD, gN, gT, gsC, gsN, sFor, sAsg, isB, iiG0, lenG, listG, tupG, leG, ltG, geG, gtG, intG, Ps.wp, wipeO, xP, xE, cP, cE, isSc, List.map_cons, List.map_nil, List.cons_append, List.nil_append, List.length_cons, List.length_nil, List.getElem?_cons_zero, List.getElem?_cons_succ, List.replicate, List.set_cons_zero, List.set_cons_succ, Nat.reduceSub, Nat.reduceAdd, if_true, if_false, Bool.false_eq_true, reduceCtorEq, truD, Bool.not_true, Bool.not_false, Option.map_some, at0, at1, at2, eqI, neI, true_and, and_true, implies_true, ne_eq, not_false_eq_true, Nat.reduceEqDiff, Bool.not_true]; exact z) evA_nil)) (fun _ => rfl) rfl ?_
          refine w_pick (by omega) (by intro z; rw [List.map_eq_nil_iff] at z; rw [z] at hs1; exact absurd hs1 (by decide)) (by rw [List.length_map]; omega) fun x hx => ?_
          obtain ⟨y, hy, rfl⟩ := List.mem_map.mp hx
          simp only [xV, xB, xCons, xNil, xF, xOp, List.getElem?_cons_zero, List.getElem?_cons_succ, look, looks, opt, hadd, O.toD, tupG, frzs, frz, cE, List.length_cons, List.length_nil, Nat.zero_add, Nat.reduceAdd, true_and, implies_true]
          refine ⟨sizeLine_le (by decide), ?_⟩
          refine w_pick (by omega) (by intro z; cases z) (show 3 < 1000 by decide) fun x hx => ?_
          obtain ⟨lt, rfl, hlt⟩ : ∃ lt : Lt, x = lt.d ∧ ∀ w ∈ lt.ws, PyData.strOk w = true := by
            simp only [List.mem_cons, List.not_mem_nil, or_false] at hx
            rcases hx with rfl | rfl | rfl
            · exact ⟨.w y, rfl, fun w hw => by rw [List.mem_singleton.mp hw]; exact hss y hy⟩
            · exact ⟨.l (ys.take k3), rfl, hfo⟩
            · exact ⟨.t (ys.take k3 ++ ys.take k3), rfl, fun w hw => (List.mem_append.mp hw).elim (hfo w) (hfo w)⟩
          simp only [O.toD, frz, opt, dSlot, List.getElem?_cons_zero, List.getElem?_cons_succ, xV, look, lenO, putO, keyD, Option.map_some, lets_put hcn, List.set_cons_succ, List.set_cons_zero]
          refine ⟨⟨_, rfl, rfl⟩, by unfold letsK; rw [List.length_map, sizeLine_eq]; omega, hN _ ⟨pre ++ [c], post, ls ++ [(c.1, lt)], _, _, _, _, _, by rw [e1, List.append_assoc]; rfl, rfl, ⟨fun p hp => ?_, fun p hp => ?_⟩, ?_, fun p hp => ?_, ?_, ?_, rfl⟩⟩
          · rcases List.mem_append.mp hp with z | z
            · exact e3.c p z
            · rw [List.mem_singleton.mp z]; exact List.mem_map.mpr ⟨c, hc, rfl⟩
          · rcases List.mem_append.mp hp with z | z
            · exact e3.w p z
            · rw [List.mem_singleton.mp z]; exact hlt
          · rw [List.map_append, List.nodup_append]
            refine ⟨e4, List.nodup_cons.mpr ⟨List.not_mem_nil, List.nodup_nil⟩, fun a ha b hb e => ?_⟩
            rw [List.mem_singleton.mp hb] at e
            have e' : a = c.1 := e
            exact hcn (e' ▸ ha)
          · rw [List.map_append]
            rcases List.mem_append.mp hp with z | z
            · exact List.mem_append_left _ (e5 p z)
            · rw [List.mem_singleton.mp z]; exact List.mem_append_right _ List.mem_cons_self
          · rw [List.length_append, List.length_append, List.length_singleton, List.length_singleton]; omega
          · rw [List.length_append, List.length_singleton]; omega
        · simp only [hk0, decide_false, Bool.false_eq_true, if_false]
          refine hN _ ⟨pre ++ [c], post, ls, n' + 1, _, _, _, _, by rw [e1, List.append_assoc]; rfl, rfl, e3, e4, fun p hp => ?_, ?_, ?_, rfl⟩
          · rw [List.map_append]; exact List.mem_append_left _ (e5 p hp)
          · rw [List.length_append]; omega
          · rw [List.length_append, List.length_singleton]; omega
      unfold colD
      simp only [gN, gT, gsC, gsN, xYes, if_true, true_and, and_true, List.length_cons, List.length_nil, Nat.reduceAdd, Nat.zero_add, List.set_cons_zero, List.set_cons_succ, Ps.wp, wipeO]
      refine seq_go fun N3 h3 => ?_
      obtain ⟨cn, o⟩ := c
      cases o with
      | none =>
        have ha : addG (.lst (ns.map D.str)) (.lst [.str "z"]) = some (.lst ((ns ++ [("z" : Str)]).map D.str)) := by rw [addL (by rw [List.length_map, List.length_singleton]; omega), List.map_append]; rfl
        simp only [mk, sRet, sRetN, sSeq, sNx, sIf, sSet, sSetO, sEx, xU, xF, xB, xCons, xNil, xV, xC, xMv, st0, opt, looks, look, frz, frzs, isiG, tyG, clsG, clssG, O.toD, xAnd, xOr, xNot, xIf, xIfO, xT, xTO, xNotT, xAndT, xOrT, xIfT, xYes, xOp, xUn, xTup, xLst, xCh, xLc, xDc, iA, itemsD, gN, gT, gsC, gsN, sFor, sAsg, isB, iiG0, lenG, listG, tupG, leG, ltG, geG, gtG, intG, Ps.wp, wipeO, xP, xE, cP, cE, isSc, List.map_cons, List.map_nil, List.cons_append, List.nil_append, List.length_cons, List.length_nil, List.getElem?_cons_zero, List.getElem?_cons_succ, List.replicate, List.set_cons_zero, List.set_cons_succ, Nat.reduceSub, Nat.reduceAdd, if_true, if_false, Bool.false_eq_true, reduceCtorEq, truD, Bool.not_true, Bool.not_false, Option.map_some, at0, at1, at2, eqI, neI, true_and, and_true, implies_true, ne_eq, not_false_eq_true, Nat.reduceEqDiff, mkD, isNG, show Str.ofString "z" = ("z" : Str) from rfl, ha]
        refine ⟨sizeLine_le (by decide), go (ns ++ [("z" : Str)]) (fun x hx => ?_) (by rw [List.length_append, List.length_singleton]; omega) (by rw [List.length_append, List.length_singleton]; omega) N3 h3⟩
        rcases List.mem_append.mp hx with z | z
        · exact word_ok (hns x z)
        · rw [List.mem_singleton.mp z]; decide +kernel
      | some ms =>
        obtain ⟨m1, m2, m3, m4⟩ := gc.m ms rfl
        have hcut : cutD (ns.map D.str) none (some 1) = (ns.take 1).map D.str := by rw [show (1 : Int) = ((1 : Nat) : Int) from rfl, cutD_take, List.map_take]
        have htl : (ns.take 1).length ≤ 1 := by rw [List.length_take]; omega
        have ha : addG (.lst (ms.map D.str)) (.lst ((ns.take 1).map D.str)) = some (.lst ((ms ++ ns.take 1).map D.str)) := by rw [addL (by rw [List.length_map, List.length_map]; omega), List.map_append]
        simp only [mk, sRet, sRetN, sSeq, sNx, sIf, sSet, sSetO, sEx, xU, xF, xB, xCons, xNil, xV, xC, xMv, st0, opt, looks, look, frz, frzs, isiG, tyG, clsG, clssG, O.toD, xAnd, xOr, xNot, xIf, xIfO, xT, xTO, xNotT, xAndT, xOrT, xIfT, xYes, xOp, xUn, xTup, xLst, xCh, xLc, xDc, iA, itemsD, gN, gT, gsC, gsN, sFor, sAsg, isB, iiG0, lenG, listG, tupG, leG, ltG, geG, gtG, intG, Ps.wp, wipeO, xP, xE, cP, cE, isSc, List.map_cons, List.map_nil, List.cons_append, List.nil_append, List.length_cons, List.length_nil, List.getElem?_cons_zero, List.getElem?_cons_succ, List.replicate, List.set_cons_zero, List.set_cons_succ, Nat.reduceSub, Nat.reduceAdd, if_true, if_false, Bool.false_eq_true, reduceCtorEq, truD, Bool.not_true, Bool.not_false, Option.map_some, at0, at1, at2, eqI, neI, true_and, and_true, implies_true, ne_eq, not_false_eq_true, Nat.reduceEqDiff, mkD, isNG, pNo, pSo, xSl, slD, hcut, ha]
        refine go (ms ++ ns.take 1) (fun x hx => ?_) (by rw [List.length_append]; omega) (by rw [List.length_append]; omega) N3 h3
        rcases List.mem_append.mp hx with z | z
        · exact word_ok (m4 x z)
        · exact word_ok (hns x (List.mem_of_mem_take z))
end Q
namespace Q
open PySem L2 PySem.Spec PyProof.Rows
variable {K : PySem.W.Frag} {cs : Cs} {E : EF} {R : List Cell} {Q : O → List Cell → Prop} {n : Nat} {t : Tab} {sc : List Tab}
theorem drop_cons {α : Type} {xs ds : List α} {d : α} {j : Nat} (h : d :: ds = xs.drop j) : xs[j]? = some d ∧ ds = xs.drop (j + 1) := by
  have hj : j < xs.length := by
    rcases Nat.lt_or_ge j xs.length with z | z
    · exact z
    · rw [List.drop_eq_nil_of_le z] at h
      cases h
  rw [List.drop_eq_getElem_cons hj] at h
  cases h
  exact ⟨List.getElem?_eq_getElem hj, rfl⟩
theorem rng_at {m j : Nat} {d : D} (h : (rngD 0 ((m : Nat) : Int).toNat)[j]? = some d) : j < m ∧ d = .int (j : Int) := by
  unfold rngD at h
  rw [List.getElem?_map, Int.toNat_natCast] at h
  obtain ⟨i, hi, rfl⟩ := Option.map_eq_some_iff.mp h
  have hj : j < m := by
    rcases Nat.lt_or_ge j m with z | z
    · exact z
    · rw [List.getElem?_eq_none (by rw [List.length_range]; exact z)] at hi
      cases hi
  rw [List.getElem?_range hj] at hi
  cases hi
  exact ⟨hj, by rw [Int.zero_add]⟩
theorem len11 {ws : List Str} (h : ws.length = 11) : ∃ w0 w1 w2 w3 w4 w5 w6 w7 w8 w9 w10, ws = [w0, w1, w2, w3, w4, w5, w6, w7, w8, w9, w10] := by
  match ws, h with
  | [w0, w1, w2, w3, w4, w5, w6, w7, w8, w9, w10], _ => exact ⟨w0, w1, w2, w3, w4, w5, w6, w7, w8, w9, w10, rfl⟩
theorem w_schema_drawn {m q : Nat} (hm0 : 1 ≤ m) (hm : m ≤ 4) (hq0 : 1 ≤ q) (hq : q ≤ 3) (hn : n + 1000 < 2 ^ 60) (h : ∀ sc, GoodS sc → sc.length ≤ m → ∀ n', n' ≤ n + 100 → Q (.d (scD sc)) (.pen n' :: R)) : m__law_schema_drawn K cs [.cell 0, .int m, .int q] E (.pen n :: R) Q := by
  unfold m__law_schema_drawn b__law_schema_drawn
  simp only [mk, st0, List.map_cons, List.map_nil, List.cons_append, List.nil_append, List.length_cons, List.length_nil, Nat.reduceSub, Nat.reduceAdd, List.replicate]
  refine seq_go fun N1 h1 => ?_
  simp only [mk, sRet, sRetN, sSeq, sNx, sIf, sSet, sSetO, sEx, xU, xF, xB, xCons, xNil, xV, xC, xMv, st0, opt, looks, look, frz, frzs, isiG, tyG, clsG, clssG, O.toD, xAnd, xOr, xNot, xIf, xIfO, xT, xTO, xNotT, xAndT, xOrT, xIfT, xYes, xOp, xUn, xTup, xLst, xCh, xLc, xDc, iA, itemsD, gN, gT, gsC, gsN, sFor, sAsg, isB, iiG0, lenG, listG, tupG, leG, ltG, geG, gtG, intG, Ps.wp, wipeO, xP, xE, cP, cE, isSc, List.map_cons, List.map_nil, List.cons_append, List.nil_append, List.length_cons, List.length_nil, List.getElem?_cons_zero, List.getElem?_cons_succ, List.replicate, List.set_cons_zero, List.set_cons_succ, Nat.reduceSub, Nat.reduceAdd, if_true, if_false, Bool.false_eq_true, reduceCtorEq, truD, Bool.not_true, Bool.not_false, Option.map_some, at0, at1, at2, eqI, neI, true_and, and_true, implies_true, ne_eq, not_false_eq_true, Nat.reduceEqDiff, Bool.not_true]
  refine w_words (m := 11) (by decide) (by omega) fun ws wl ww wnd n1 hn1 => ?_
  obtain ⟨w0, w1, w2, w3, w4, w5, w6, w7, w8, w9, w10, rfl⟩ := len11 wl
  simp only [List.map_cons, List.map_nil, O.toD, List.set_cons_succ, List.set_cons_zero]
  refine h1 _ (seq_go fun N2 h2 => ?_)
  obtain ⟨wsD, hwsD⟩ : ∃ wsD, wsD = D.lst [.str w0, .str w1, .str w2, .str w3, .str w4, .str w5, .str w6, .str w7, .str w8, .str w9, .str w10] := ⟨_, rfl⟩
  rw [← hwsD]
  have i8 : ixD wsD (.int 8) = some (.d (.str w8)) := by rw [hwsD]; rfl
  have i9 : ixD wsD (.int 9) = some (.d (.str w9)) := by rw [hwsD]; rfl
  have i10 : ixD wsD (.int 10) = some (.d (.str w10)) := by rw [hwsD]; rfl
  simp only [mk, sRet, sRetN, sSeq, sNx, sIf, sSet, sSetO, sEx, xU, xF, xB, xCons, xNil, xV, xC, xMv, st0, opt, looks, look, frz, frzs, isiG, tyG, clsG, clssG, O.toD, xAnd, xOr, xNot, xIf, xIfO, xT, xTO, xNotT, xAndT, xOrT, xIfT, xYes, xOp, xUn, xTup, xLst, xCh, xLc, xDc, iA, itemsD, gN, gT, gsC, gsN, sFor, sAsg, isB, iiG0, lenG, listG, tupG, leG, ltG, geG, gtG, intG, Ps.wp, wipeO, xP, xE, cP, cE, isSc, List.map_cons, List.map_nil, List.cons_append, List.nil_append, List.length_cons, List.length_nil, List.getElem?_cons_zero, List.getElem?_cons_succ, List.replicate, List.set_cons_zero, List.set_cons_succ, Nat.reduceSub, Nat.reduceAdd, if_true, if_false, Bool.false_eq_true, reduceCtorEq, truD, Bool.not_true, Bool.not_false, Option.map_some, at0, at1, at2, eqI, neI, true_and, and_true, implies_true, ne_eq, not_false_eq_true, Nat.reduceEqDiff, sPar2, oCons, oNil, i8, i9, i10]
  refine ⟨sizeLine_le (by decide), sizeLine_le (by decide), sizeLine_le (by decide), sizeLine_le (by decide), ?_⟩
  refine h2 _ (seq_go fun N3 h3 => ?_)
  simp only [mk, sRet, sRetN, sSeq, sNx, sIf, sSet, sSetO, sEx, xU, xF, xB, xCons, xNil, xV, xC, xMv, st0, opt, looks, look, frz, frzs, isiG, tyG, clsG, clssG, O.toD, xAnd, xOr, xNot, xIf, xIfO, xT, xTO, xNotT, xAndT, xOrT, xIfT, xYes, xOp, xUn, xTup, xLst, xCh, xLc, xDc, iA, itemsD, gN, gT, gsC, gsN, sFor, sAsg, isB, iiG0, lenG, listG, tupG, leG, ltG, geG, gtG, intG, Ps.wp, wipeO, xP, xE, cP, cE, isSc, List.map_cons, List.map_nil, List.cons_append, List.nil_append, List.length_cons, List.length_nil, List.getElem?_cons_zero, List.getElem?_cons_succ, List.replicate, List.set_cons_zero, List.set_cons_succ, Nat.reduceSub, Nat.reduceAdd, if_true, if_false, Bool.false_eq_true, reduceCtorEq, truD, Bool.not_true, Bool.not_false, Option.map_some, at0, at1, at2, eqI, neI, true_and, and_true, implies_true, ne_eq, not_false_eq_true, Nat.reduceEqDiff, iR1, addI]
  refine w_draw (m := m) (by omega) (by omega) (by omega) fun k hk => ?_
  simp only [mk, sRet, sRetN, sSeq, sNx, sIf, sSet, sSetO, sEx, xU, xF, xB, xCons, xNil, xV, xC, xMv, st0, opt, looks, look, frz, frzs, isiG, tyG, clsG, clssG, O.toD, xAnd, xOr, xNot, xIf, xIfO, xT, xTO, xNotT, xAndT, xOrT, xIfT, xYes, xOp, xUn, xTup, xLst, xCh, xLc, xDc, iA, itemsD, gN, gT, gsC, gsN, sFor, sAsg, isB, iiG0, lenG, listG, tupG, leG, ltG, geG, gtG, intG, Ps.wp, wipeO, xP, xE, cP, cE, isSc, List.map_cons, List.map_nil, List.cons_append, List.nil_append, List.length_cons, List.length_nil, List.getElem?_cons_zero, List.getElem?_cons_succ, List.replicate, List.set_cons_zero, List.set_cons_succ, Nat.reduceSub, Nat.reduceAdd, if_true, if_false, Bool.false_eq_true, reduceCtorEq, truD, Bool.not_true, Bool.not_false, Option.map_some, at0, at1, at2, eqI, neI, true_and, and_true, implies_true, ne_eq, not_false_eq_true, Nat.reduceEqDiff, addI]
  refine ⟨⟨by omega, by omega⟩, ?_⟩
  obtain ⟨mkL, hmkL⟩ : ∃ mkL, mkL = D.lst [.tup [.str w8, .str w9], .tup [.str w10, .str w8, .str w9]] := ⟨_, rfl⟩
  rw [← hmkL]
  have s03 : [w0, w1, w2, w3].Sublist [w0, w1, w2, w3, w4, w5, w6, w7, w8, w9, w10] := List.take_sublist 4 [w0, w1, w2, w3, w4, w5, w6, w7, w8, w9, w10]
  have s47 : [w4, w5, w6, w7].Sublist [w0, w1, w2, w3, w4, w5, w6, w7, w8, w9, w10] := (List.take_sublist 4 (List.drop 4 [w0, w1, w2, w3, w4, w5, w6, w7, w8, w9, w10])).trans (List.drop_sublist 4 [w0, w1, w2, w3, w4, w5, w6, w7, w8, w9, w10])
  have s810 : [w8, w9, w10].Sublist [w0, w1, w2, w3, w4, w5, w6, w7, w8, w9, w10] := List.drop_sublist 8 [w0, w1, w2, w3, w4, w5, w6, w7, w8, w9, w10]
  have s89 : [w8, w9].Sublist [w8, w9, w10] := List.take_sublist 2 [w8, w9, w10]
  have nd03 : [w0, w1, w2, w3].Nodup := List.Nodup.sublist s03 wnd
  have nd47 : [w4, w5, w6, w7].Nodup := List.Nodup.sublist s47 wnd
  have nd3 : [w8, w9, w10].Nodup := List.Nodup.sublist s810 wnd
  have nd89 : [w8, w9].Nodup := List.Nodup.sublist s89 nd3
  have nd1089 : [w10, w8, w9].Nodup := by
    simp only [List.nodup_cons, List.mem_cons, List.not_mem_nil, or_false, not_or, not_false_eq_true, List.nodup_nil, and_true] at nd3 ⊢
    exact ⟨⟨Ne.symm nd3.1.2, Ne.symm nd3.2⟩, nd3.1.1⟩
  have ww' : ∀ x ∈ [w4, w5, w6, w7], wordB x = true := fun x hx => ww x (s47.subset hx)
  have www : ∀ x ∈ [w8, w9, w10], wordB x = true := fun x hx => ww x (s810.subset hx)
  have nmD : ∀ j : Nat, j < 4 → ∃ w, [w0, w1, w2, w3][j]? = some w ∧ wordB w = true ∧ ixD wsD (.int (j : Int)) = some (.d (.str w)) := by
    intro j hj
    have hb : ∀ w ∈ [w0, w1, w2, w3], wordB w = true := fun x hx => ww x (s03.subset hx)
    match j, hj with
    | 0, _ => exact ⟨w0, rfl, hb _ (by simp), by rw [hwsD]; rfl⟩
    | 1, _ => exact ⟨w1, rfl, hb _ (by simp), by rw [hwsD]; rfl⟩
    | 2, _ => exact ⟨w2, rfl, hb _ (by simp), by rw [hwsD]; rfl⟩
    | 3, _ => exact ⟨w3, rfl, hb _ (by simp), by rw [hwsD]; rfl⟩
  have c48 : slD wsD (some 4) (some 8) = some (.lst ([w4, w5, w6, w7].map D.str)) := by rw [hwsD]; rfl
  have m0 : ixD mkL (.int 0) = some (.d (mkD (some [w8, w9]))) := by rw [hmkL]; rfl
  have m1 : ixD mkL (.int 1) = some (.d (mkD (some [w10, w8, w9]))) := by rw [hmkL]; rfl
  have gm : ∀ x ∈ [D.non, D.non, mkD (some [w8, w9]), mkD (some [w10, w8, w9])], ∃ o : Option (List Str), x = mkD o ∧ ∀ ms, o = some ms → 2 ≤ ms.length ∧ ms.length ≤ 3 ∧ ms.Nodup ∧ ∀ x ∈ ms, wordB x = true := by
    intro x hx
    simp only [List.mem_cons, List.not_mem_nil, or_false] at hx
    rcases hx with rfl | rfl | rfl | rfl
    · exact ⟨none, rfl, fun ms z => by cases z⟩
    · exact ⟨none, rfl, fun ms z => by cases z⟩
    · refine ⟨_, rfl, fun ms z => ?_⟩
      cases z
      exact ⟨Nat.le_refl 2, Nat.le_succ 2, nd89, fun x hx => www x (s89.subset hx)⟩
    · refine ⟨_, rfl, fun ms z => ?_⟩
      cases z
      refine ⟨Nat.le_succ 2, Nat.le_refl 3, nd1089, fun x hx => www x ?_⟩
      simp only [List.mem_cons, List.not_mem_nil, or_false] at hx ⊢
      rcases hx with z | z | z
      · exact .inr (.inr z)
      · exact .inl z
      · exact .inr (.inl z)
  rw [show ((1 : Int) + (k : Int)) = ((k + 1 : Nat) : Int) by omega]
  clear hwsD hmkL i8 i9 i10 ww wnd wl h1 h2 s03 s47 s810 s89
  refine forW_by (fun ds st => ∃ (sc : List Tab) (n' : Nat) (o4 o7 o8 : O), ds = (rngD 0 ((k + 1 : Nat) : Int).toNat).drop sc.length ∧ sc.length ≤ k + 1 ∧ sc.map (·.1) = [w0, w1, w2, w3].take sc.length ∧ (∀ t ∈ sc, GoodT t) ∧ n' ≤ n1 + 1 + 20 * sc.length ∧ st = ⟨[.d (.cell 0), .d (.int m), .d (.int q), .d wsD, o4, .d mkL, .lst (sc.map plD), o7, o8], .pen n' :: R, true, false⟩) ?_ ?_ _ _ ⟨[], n1 + 1, .un, .un, .un, rfl, Nat.zero_le _, rfl, fun _ z => absurd z List.not_mem_nil, Nat.le_refl _, rfl⟩
  · rintro st ⟨sc, n', o4, o7, o8, e1, e2, e3, e4, e5, rfl⟩
    have hl : sc.length = k + 1 := by
      rcases Nat.lt_or_ge sc.length (k + 1) with z | z
      · have := congrArg List.length e1
        rw [List.length_drop, rng_len, List.length_nil] at this
        omega
      · omega
    refine h3 _ ?_
    simp only [mk, sRet, sRetN, sSeq, sNx, sIf, sSet, sSetO, sEx, xU, xF, xB, xCons, xNil, xV, xC, xMv, st0, opt, looks, look, frz, frzs, isiG, tyG, clsG, clssG, O.toD, xAnd, xOr, xNot, xIf, xIfO, xT, xTO, xNotT, xAndT, xOrT, xIfT, xYes, xOp, xUn, xTup, xLst, xCh, xLc, xDc, iA, itemsD, gN, gT, gsC, gsN, sFor, sAsg, isB, iiG0, lenG, listG, tupG, leG, ltG, geG, gtG, intG, Ps.wp, wipeO, xP, xE, cP, cE, isSc, List.map_cons, List.map_nil, List.cons_append, List.nil_append, List.length_cons, List.length_nil, List.getElem?_cons_zero, List.getElem?_cons_succ, List.replicate, List.set_cons_zero, List.set_cons_succ, Nat.reduceSub, Nat.reduceAdd, if_true, if_false, Bool.false_eq_true, reduceCtorEq, truD, Bool.not_true, Bool.not_false, Option.map_some, at0, at1, at2, eqI, neI, true_and, and_true, implies_true, ne_eq, not_false_eq_true, Nat.reduceEqDiff, Bool.not_true]
    refine h sc ⟨by omega, by omega, ?_, e4⟩ (by omega) n' (by omega)
    rw [e3]
    exact List.Nodup.sublist (List.take_sublist _ _) nd03
  · rintro d ds st ⟨sc, n', o4, o7, o8, e1, e2, e3, e4, e5, rfl⟩ N hN
    obtain ⟨f1, f2⟩ := drop_cons e1
    obtain ⟨f3, rfl⟩ := rng_at f1
    obtain ⟨w, hw1, hw2, hw3⟩ := nmD sc.length (by omega)
    simp only [gN, gT, gsC, gsN, xYes, if_true, true_and, and_true, List.length_cons, List.length_nil, Nat.reduceAdd, Nat.zero_add, List.set_cons_zero, List.set_cons_succ, Ps.wp, wipeO]
    refine seq_go fun N4 h4 => ?_
    simp only [mk, sRet, sRetN, sSeq, sNx, sIf, sSet, sSetO, sEx, xU, xF, xB, xCons, xNil, xV, xC, xMv, st0, opt, looks, look, frz, frzs, isiG, tyG, clsG, clssG, O.toD, xAnd, xOr, xNot, xIf, xIfO, xT, xTO, xNotT, xAndT, xOrT, xIfT, xYes, xOp, xUn, xTup, xLst, xCh, xLc, xDc, iA, itemsD, gN, gT, gsC, gsN, sFor, sAsg, isB, iiG0, lenG, listG, tupG, leG, ltG, geG, gtG, intG, Ps.wp, wipeO, xP, xE, cP, cE, isSc, List.map_cons, List.map_nil, List.cons_append, List.nil_append, List.length_cons, List.length_nil, List.getElem?_cons_zero, List.getElem?_cons_succ, List.replicate, List.set_cons_zero, List.set_cons_succ, Nat.reduceSub, Nat.reduceAdd, if_true, if_false, Bool.false_eq_true, reduceCtorEq, truD, Bool.not_true, Bool.not_false, Option.map_some, at0, at1, at2, eqI, neI, true_and, and_true, implies_true, ne_eq, not_false_eq_true, Nat.reduceEqDiff, Bool.not_true]
    refine ⟨sizeLine_le (by decide), h4 _ (seq_go fun N5 h5 => ?_)⟩
    simp only [sFor, iA, xF, xSl]
    refine xE_of [.cell 0, .lst ([w4, w5, w6, w7].map D.str)] (evA_cons (fun _ z => by simp only [mk, sRet, sRetN, sSeq, sNx, sIf, sSet, sSetO, sEx, xU, xF, xB, xCons, xNil, xV, xC, xMv, st0, opt, looks, look, frz, frzs, isiG, tyG, clsG, clssG, O.toD, xAnd, xOr, xNot, xIf, xIfO, xT, xTO, xNotT, xAndT, xOrT, xIfT, xYes, xOp, xUn, xTup, xLst, xCh, xLc, xDc, iA, itemsD, gN, gT, gsC, gsN, sFor, sAsg, isB, iiG0, lenG, listG, tupG, leG, ltG, geG, gtG, intG, Ps.wp, wipeO, xP, xE, cP, cE, isSc, List.map_cons, List.map_nil, List.cons_append, List.nil_append, List.length_cons, List.length_nil, List.getElem?_cons_zero, List.getElem?_cons_succ, List.replicate, List.set_cons_zero, List.set_cons_succ, Nat.reduceSub, Nat.reduceAdd, if_true, if_false, Bool.false_eq_true, reduceCtorEq, truD, Bool.not_true, Bool.not_false, Option.map_some, at0, at1, at2, eqI, neI, true_and, and_true, implies_true, ne_eq, not_false_eq_true, Nat.reduceEqDiff, Bool.not_true]; exact z) (evA_cons (fun _ z => by simp only [mk, sRet, sRetN, sSeq, sNx, sIf, sSet, sSetO, sEx, xU, xF, xB, xCons, xNil, xV, xC, xMv, st0, opt, looks, look, frz, frzs, isiG, tyG, clsG, clssG, O.toD, xAnd, xOr, xNot, xIf, xIfO, xT, xTO, xNotT, xAndT, xOrT, xIfT, xYes, xOp, xUn, xTup, xLst, xCh, xLc, xDc, iA, itemsD, gN, gT, gsC, gsN, sFor, sAsg, isB, iiG0, lenG, listG, tupG, leG, ltG, geG, gtG, intG, Ps.wp, wipeO, xP, xE, cP, cE, isSc, List.map_cons, List.map_nil, List.cons_append, List.nil_append, List.length_cons, List.length_nil, List.getElem?_cons_zero, List.getElem?_cons_succ, List.replicate, List.set_cons_zero, List.set_cons_succ, Nat.reduceSub, Nat.reduceAdd, if_true, if_false, Bool.false_eq_true, reduceCtorEq, truD, Bool.not_true, Bool.not_false, Option.map_some, at0, at1, at2, eqI, neI, true_and, and_true, implies_true, ne_eq, not_false_eq_true, Nat.reduceEqDiff, pSo, xSl, c48]; exact z) evA_nil)) (fun _ => rfl) rfl ?_
    refine w_shuffled (fun x hx => word_ok (ww' x hx)) (show 4 < 1000 by decide) (show n' + 4 < 2 ^ 60 by omega) fun ys hys => ?_
    simp only [mk, sRet, sRetN, sSeq, sNx, sIf, sSet, sSetO, sEx, xU, xF, xB, xCons, xNil, xV, xC, xMv, st0, opt, looks, look, frz, frzs, isiG, tyG, clsG, clssG, O.toD, xAnd, xOr, xNot, xIf, xIfO, xT, xTO, xNotT, xAndT, xOrT, xIfT, xYes, xOp, xUn, xTup, xLst, xCh, xLc, xDc, iA, itemsD, gN, gT, gsC, gsN, sFor, sAsg, isB, iiG0, lenG, listG, tupG, leG, ltG, geG, gtG, intG, Ps.wp, wipeO, xP, xE, cP, cE, isSc, List.map_cons, List.map_nil, List.cons_append, List.nil_append, List.length_cons, List.length_nil, List.getElem?_cons_zero, List.getElem?_cons_succ, List.replicate, List.set_cons_zero, List.set_cons_succ, Nat.reduceSub, Nat.reduceAdd, if_true, if_false, Bool.false_eq_true, reduceCtorEq, truD, Bool.not_true, Bool.not_false, Option.map_some, at0, at1, at2, eqI, neI, true_and, and_true, implies_true, ne_eq, not_false_eq_true, Nat.reduceEqDiff, pNo, pSo, addI]
    refine w_draw (m := q) (show n' + 4 < 2 ^ 60 by omega) (by omega) (by omega) fun d hd => ?_
    have hcut : cutD (ys.map D.str) none (some (1 + (d : Int))) = (ys.take (d + 1)).map D.str := by rw [show (1 : Int) + (d : Int) = ((d + 1 : Nat) : Int) by omega, cutD_take, List.map_take]
    simp only [mk, sRet, sRetN, sSeq, sNx, sIf, sSet, sSetO, sEx, xU, xF, xB, xCons, xNil, xV, xC, xMv, st0, opt, looks, look, frz, frzs, isiG, tyG, clsG, clssG, O.toD, xAnd, xOr, xNot, xIf, xIfO, xT, xTO, xNotT, xAndT, xOrT, xIfT, xYes, xOp, xUn, xTup, xLst, xCh, xLc, xDc, iA, itemsD, gN, gT, gsC, gsN, sFor, sAsg, isB, iiG0, lenG, listG, tupG, leG, ltG, geG, gtG, intG, Ps.wp, wipeO, xP, xE, cP, cE, isSc, List.map_cons, List.map_nil, List.cons_append, List.nil_append, List.length_cons, List.length_nil, List.getElem?_cons_zero, List.getElem?_cons_succ, List.replicate, List.set_cons_zero, List.set_cons_succ, Nat.reduceSub, Nat.reduceAdd, if_true, if_false, Bool.false_eq_true, reduceCtorEq, truD, Bool.not_true, Bool.not_false, Option.map_some, at0, at1, at2, eqI, neI, true_and, and_true, implies_true, ne_eq, not_false_eq_true, Nat.reduceEqDiff, addI, slD, hcut]
    have hyl : ys.length = 4 := hys.length_eq
    have hynd : ys.Nodup := hys.nodup_iff.mpr nd47
    refine forW_by (fun ds st => ∃ (cols : List Col) (rest : List Str) (n2 : Nat) (o8 : O), cols.map (·.1) ++ rest = ys.take (d + 1) ∧ ds = rest.map D.str ∧ (∀ c ∈ cols, GoodC c) ∧ n2 ≤ n' + 5 + cols.length ∧ st = ⟨[.d (.cell 0), .d (.int m), .d (.int q), .d wsD, .d (.int (sc.length : Nat)), .d mkL, .lst (sc.map plD), .lst (cols.map colD), o8], .pen n2 :: R, true, false⟩) ?_ ?_ _ _ ⟨[], ys.take (d + 1), n' + 5, o8, rfl, rfl, fun _ z => absurd z List.not_mem_nil, Nat.le_refl _, rfl⟩
    · rintro st ⟨cols, rest, n2, o8, g1, g2, g3, g4, rfl⟩
      have : rest = [] := by cases rest with | nil => rfl | cons _ _ => cases g2
      subst this
      rw [List.append_nil] at g1
      have hcl : cols.length = d + 1 := by
        have := congrArg List.length g1
        rw [List.length_map, List.length_take] at this
        omega
      refine h5 _ ?_
      simp only [sApp]
      refine ⟨⟨_, rfl⟩, ?_⟩
      simp only [mk, sRet, sRetN, sSeq, sNx, sIf, sSet, sSetO, sEx, xU, xF, xB, xCons, xNil, xV, xC, xMv, st0, opt, looks, look, frz, frzs, isiG, tyG, clsG, clssG, O.toD, xAnd, xOr, xNot, xIf, xIfO, xT, xTO, xNotT, xAndT, xOrT, xIfT, xYes, xOp, xUn, xTup, xLst, xCh, xLc, xDc, iA, itemsD, gN, gT, gsC, gsN, sFor, sAsg, isB, iiG0, lenG, listG, tupG, leG, ltG, geG, gtG, intG, Ps.wp, wipeO, xP, xE, cP, cE, isSc, List.map_cons, List.map_nil, List.cons_append, List.nil_append, List.length_cons, List.length_nil, List.getElem?_cons_zero, List.getElem?_cons_succ, List.replicate, List.set_cons_zero, List.set_cons_succ, Nat.reduceSub, Nat.reduceAdd, if_true, if_false, Bool.false_eq_true, reduceCtorEq, truD, Bool.not_true, Bool.not_false, Option.map_some, at0, at1, at2, eqI, neI, true_and, and_true, implies_true, ne_eq, not_false_eq_true, Nat.reduceEqDiff, hw3]
      refine ⟨sizeLine_le (by decide), by rw [List.length_map, sizeLine_eq]; omega, ?_⟩
      refine hN _ ⟨sc ++ [(w, cols)], n2, _, _, _, by rw [f2, List.length_append]; rfl, by rw [List.length_append, List.length_singleton]; omega, ?_, ?_, by rw [List.length_append, List.length_singleton]; omega, by rw [List.map_append]; rfl⟩
      · rw [List.map_append, List.length_append, e3, List.length_singleton, List.take_succ, hw1]
        rfl
      · intro t ht
        rcases List.mem_append.mp ht with z | z
        · exact e4 t z
        · rw [List.mem_singleton.mp z]
          exact ⟨hw2, by show 1 ≤ cols.length; omega, by show cols.length ≤ 3; omega, by show (cols.map (·.1)).Nodup; rw [g1]; exact List.Nodup.sublist (List.take_sublist _ _) hynd, g3⟩
    · rintro d' ds' st ⟨cols, rest, n2, o8, g1, g2, g3, g4, rfl⟩ N' hN'
      cases rest with
      | nil => cases g2
      | cons y rest =>
        cases g2
        have hy : y ∈ ys := List.mem_of_mem_take (by rw [← g1]; exact List.mem_append_right _ List.mem_cons_self)
        have hcl : cols.length + 1 ≤ d + 1 := by
          have := congrArg List.length g1
          rw [List.length_append, List.length_map, List.length_cons, List.length_take] at this
          omega
        simp only [gN, gT, gsC, gsN, xYes, if_true, true_and, and_true, List.length_cons, List.length_nil, Nat.reduceAdd, Nat.zero_add, List.set_cons_zero, List.set_cons_succ, Ps.wp, wipeO]
        simp only [sApp]
        refine ⟨⟨_, rfl⟩, ?_⟩
        simp only [xF, xTup, xCons, xV, List.getElem?_cons_zero, List.getElem?_cons_succ]
        refine xE_of [.cell 0, .lst [D.non, D.non, mkD (some [w8, w9]), mkD (some [w10, w8, w9])]] (evA_cons (fun _ z => by simp only [mk, sRet, sRetN, sSeq, sNx, sIf, sSet, sSetO, sEx, xU, xF, xB, xCons, xNil, xV, xC, xMv, st0, opt, looks, look, frz, frzs, isiG, tyG, clsG, clssG, O.toD, xAnd, xOr, xNot, xIf, xIfO, xT, xTO, xNotT, xAndT, xOrT, xIfT, xYes, xOp, xUn, xTup, xLst, xCh, xLc, xDc, iA, itemsD, gN, gT, gsC, gsN, sFor, sAsg, isB, iiG0, lenG, listG, tupG, leG, ltG, geG, gtG, intG, Ps.wp, wipeO, xP, xE, cP, cE, isSc, List.map_cons, List.map_nil, List.cons_append, List.nil_append, List.length_cons, List.length_nil, List.getElem?_cons_zero, List.getElem?_cons_succ, List.replicate, List.set_cons_zero, List.set_cons_succ, Nat.reduceSub, Nat.reduceAdd, if_true, if_false, Bool.false_eq_true, reduceCtorEq, truD, Bool.not_true, Bool.not_false, Option.map_some, at0, at1, at2, eqI, neI, true_and, and_true, implies_true, ne_eq, not_false_eq_true, Nat.reduceEqDiff, Bool.not_true]; exact z) (evA_cons (fun _ z => ?_) evA_nil)) (fun _ => rfl) rfl ?_
        · simp only [mk, sRet, sRetN, sSeq, sNx, sIf, sSet, sSetO, sEx, xU, xF, xB, xCons, xNil, xV, xC, xMv, st0, opt, looks, look, frz, frzs, isiG, tyG, clsG, clssG, O.toD, xAnd, xOr, xNot, xIf, xIfO, xT, xTO, xNotT, xAndT, xOrT, xIfT, xYes, xOp, xUn, xTup, xLst, xCh, xLc, xDc, iA, itemsD, gN, gT, gsC, gsN, sFor, sAsg, isB, iiG0, lenG, listG, tupG, leG, ltG, geG, gtG, intG, Ps.wp, wipeO, xP, xE, cP, cE, isSc, List.map_cons, List.map_nil, List.cons_append, List.nil_append, List.length_cons, List.length_nil, List.getElem?_cons_zero, List.getElem?_cons_succ, List.replicate, List.set_cons_zero, List.set_cons_succ, Nat.reduceSub, Nat.reduceAdd, if_true, if_false, Bool.false_eq_true, reduceCtorEq, truD, Bool.not_true, Bool.not_false, Option.map_some, at0, at1, at2, eqI, neI, true_and, and_true, implies_true, ne_eq, not_false_eq_true, Nat.reduceEqDiff, m0, m1]
          exact ⟨sizeLine_le (by decide), z⟩
        refine w_pick (by omega) (by intro z; cases z) (show 4 < 1000 by decide) fun x hx => ?_
        obtain ⟨o, rfl, ho⟩ := gm x hx
        simp only [mk, sRet, sRetN, sSeq, sNx, sIf, sSet, sSetO, sEx, xU, xF, xB, xCons, xNil, xV, xC, xMv, st0, opt, looks, look, frz, frzs, isiG, tyG, clsG, clssG, O.toD, xAnd, xOr, xNot, xIf, xIfO, xT, xTO, xNotT, xAndT, xOrT, xIfT, xYes, xOp, xUn, xTup, xLst, xCh, xLc, xDc, iA, itemsD, gN, gT, gsC, gsN, sFor, sAsg, isB, iiG0, lenG, listG, tupG, leG, ltG, geG, gtG, intG, Ps.wp, wipeO, xP, xE, cP, cE, isSc, List.map_cons, List.map_nil, List.cons_append, List.nil_append, List.length_cons, List.length_nil, List.getElem?_cons_zero, List.getElem?_cons_succ, List.replicate, List.set_cons_zero, List.set_cons_succ, Nat.reduceSub, Nat.reduceAdd, if_true, if_false, Bool.false_eq_true, reduceCtorEq, truD, Bool.not_true, Bool.not_false, Option.map_some, at0, at1, at2, eqI, neI, true_and, and_true, implies_true, ne_eq, not_false_eq_true, Nat.reduceEqDiff, Bool.not_true]
        refine ⟨sizeLine_le (by decide), by rw [List.length_map, sizeLine_eq]; omega, ?_⟩
        refine hN' _ ⟨cols ++ [(y, o)], rest, n2 + 1, _, by rw [List.map_append, List.append_assoc]; exact g1, rfl, fun c hc => ?_, by rw [List.length_append, List.length_singleton]; omega, by rw [List.map_append]; rfl⟩
        rcases List.mem_append.mp hc with z | z
        · exact g3 c z
        · rw [List.mem_singleton.mp z]
          exact ⟨ww' y (hys.mem_iff.mp hy), ho⟩
end Q
namespace Q
open PySem L2 PySem.Spec PyProof.Rows
variable {K : PySem.W.Frag} {cs : Cs} {E : EF} {R : List Cell} {Q : O → List Cell → Prop} {n : Nat} {t : Tab} {sc : List Tab}
def Lt.wide : Lt → Lt
  | .w s => .l [s]
  | x => x
theorem wide_ws (x : Lt) : x.wide.ws = x.ws := by cases x <;> rfl
def wideL (ls : List (Str × Lt)) : List (Str × Lt) := ls.map fun p => (p.1, p.2.wide)
theorem wide_names (ls : List (Str × Lt)) : (wideL ls).map (·.1) = ls.map (·.1) := by
  unfold wideL
  rw [List.map_map]
  rfl
theorem wide_fit (cols : List Col) (r : List Str) (ls : List (Str × Lt)) : fitB cols r (wideL ls) = fitB cols r ls := by
  unfold fitB wideL
  rw [List.all_map]
  congr 1
  funext p
  simp only [Function.comp, wide_ws]
theorem wide_ok {cols : List Col} {ls : List (Str × Lt)} (h : LetsOk cols ls) : LetsOk cols (wideL ls) := by
  refine ⟨fun p hp => ?_, fun p hp x hx => ?_⟩
  · obtain ⟨q, hq, rfl⟩ := List.mem_map.mp hp
    exact h.c q hq
  · obtain ⟨q, hq, rfl⟩ := List.mem_map.mp hp
    have hx' : x ∈ q.2.wide.ws := hx
    rw [wide_ws] at hx'
    exact h.w q hq x hx'
theorem merge_nd : ∀ {kvs acc : List (Key × D)}, ((acc ++ kvs).map (·.1)).Nodup → mergeD acc kvs = acc ++ kvs
  | [], acc, _ => by unfold mergeD; simp
  | kv :: kvs, acc, nd => by
    have h1 : kv.1 ∉ acc.map (·.1) := by
      rw [List.map_append, List.map_cons] at nd
      intro z
      exact (List.nodup_append.mp nd).2.2 _ z _ List.mem_cons_self rfl
    unfold mergeD
    rw [List.foldl_cons, putD_new h1]
    have := merge_nd (kvs := kvs) (acc := acc ++ [(kv.1, kv.2)]) (by rw [List.append_assoc]; exact nd)
    unfold mergeD at this
    rw [this, List.append_assoc]
    rfl
theorem lets_nd {ls : List (Str × Lt)} (nd : (ls.map (·.1)).Nodup) : ((letsK ls).map (·.1)).Nodup := by
  unfold letsK
  rw [List.map_map]
  have := nd_inr nd
  rw [List.map_map] at this
  exact this
theorem pairs_lets : ∀ ls : List (Str × Lt), pairsD (ls.map fun p => D.tup [.str p.1, p.2.d]) = some (letsK ls)
  | [] => rfl
  | p :: ls => by
    rw [List.map_cons, pairsD, pairs_lets ls]
    rfl
theorem num_ok : ∀ k : Nat, k < 10 → PyData.strOk (Str.ofString (toString ((k : Nat) : Int))) = true := by decide +kernel
theorem num_log (k : Nat) (h : k < 10) : (((k : Nat) : Int)).natAbs.log2 < 1920 := by
  rw [Int.natAbs_natCast]
  exact Nat.lt_of_le_of_lt (Nat.log2_le_self k) (by omega)
theorem cnt_le (t : Tab) (rs : List (List Str)) (ls : List (Str × Lt)) : cnt t rs ls ≤ rs.length := List.length_filter_le _ _
theorem cnt_nil (t : Tab) (rs : List (List Str)) : cnt t rs [] = rs.length := by
  unfold cnt
  have : rs.filter (fun r => fitB t.2 r []) = rs := List.filter_eq_self.mpr fun _ _ => rfl
  rw [this]
theorem plain_law (fk : Fk K cs) : ∀ d ns, ScrD K d ns → ns.length ≤ 63 → m_law K cs [d] (fun _ _ _ => False) [] fun o _ => o = .d (.bl true) := by
  intro d0 ns hd hl
  unfold m_law b_law
  simp only [mk, st0, List.map_cons, List.map_nil, List.cons_append, List.nil_append, List.length_cons, List.length_nil, Nat.reduceSub, Nat.reduceAdd, List.replicate]
  refine seq_go fun N1 h1 => ?_
  simp only [mk, sRet, sRetN, sSeq, sNx, sIf, sSet, sSetO, sEx, xU, xF, xB, xCons, xNil, xV, xC, xMv, st0, opt, looks, look, frz, frzs, isiG, tyG, clsG, clssG, O.toD, xAnd, xOr, xNot, xIf, xIfO, xT, xTO, xNotT, xAndT, xOrT, xIfT, xYes, xOp, xUn, xTup, xLst, xCh, xLc, xDc, iA, itemsD, gN, gT, gsC, gsN, sFor, sAsg, isB, iiG0, lenG, listG, tupG, leG, ltG, geG, gtG, intG, Ps.wp, wipeO, xP, xE, cP, cE, isSc, List.map_cons, List.map_nil, List.cons_append, List.nil_append, List.length_cons, List.length_nil, List.getElem?_cons_zero, List.getElem?_cons_succ, List.replicate, List.set_cons_zero, List.set_cons_succ, Nat.reduceSub, Nat.reduceAdd, if_true, if_false, Bool.false_eq_true, reduceCtorEq, truD, Bool.not_true, Bool.not_false, Option.map_some, at0, at1, at2, eqI, neI, true_and, and_true, implies_true, ne_eq, not_false_eq_true, Nat.reduceEqDiff, m__law_pen]
  refine ⟨ns, hd, hl, h1 _ (seq_go fun N2 h2 => ?_)⟩
  clear h1
  simp only [mk, sRet, sRetN, sSeq, sNx, sIf, sSet, sSetO, sEx, xU, xF, xB, xCons, xNil, xV, xC, xMv, st0, opt, looks, look, frz, frzs, isiG, tyG, clsG, clssG, O.toD, xAnd, xOr, xNot, xIf, xIfO, xT, xTO, xNotT, xAndT, xOrT, xIfT, xYes, xOp, xUn, xTup, xLst, xCh, xLc, xDc, iA, itemsD, gN, gT, gsC, gsN, sFor, sAsg, isB, iiG0, lenG, listG, tupG, leG, ltG, geG, gtG, intG, Ps.wp, wipeO, xP, xE, cP, cE, isSc, List.map_cons, List.map_nil, List.cons_append, List.nil_append, List.length_cons, List.length_nil, List.getElem?_cons_zero, List.getElem?_cons_succ, List.replicate, List.set_cons_zero, List.set_cons_succ, Nat.reduceSub, Nat.reduceAdd, if_true, if_false, Bool.false_eq_true, reduceCtorEq, truD, Bool.not_true, Bool.not_false, Option.map_some, at0, at1, at2, eqI, neI, true_and, and_true, implies_true, ne_eq, not_false_eq_true, Nat.reduceEqDiff, iR1]
  refine ⟨⟨by omega, by omega⟩, ?_⟩
  refine forW_by (fun ds st => ∃ (n : Nat) (R : List Cell) (o2 o3 o4 o5 o6 o7 o8 o9 o10 o11 o12 o13 o14 : O), ds.length ≤ 5 ∧ n + 10000 * ds.length ≤ 100000 ∧ st = ⟨[.d d0, .d (.cell 0), o2, o3, o4, o5, o6, o7, o8, o9, o10, o11, o12, o13, o14], .pen n :: R, true, false⟩) ?_ ?_ _ _ ⟨0, [], _, _, _, _, _, _, _, _, _, _, _, _, _, by decide, by decide, rfl⟩
  · rintro st ⟨n, R, o2, o3, o4, o5, o6, o7, o8, o9, o10, o11, o12, o13, o14, e1, e2, rfl⟩
    refine h2 _ ?_
    simp only [mk, sRet, sRetN, sSeq, sNx, sIf, sSet, sSetO, sEx, xU, xF, xB, xCons, xNil, xV, xC, xMv, st0, opt, looks, look, frz, frzs, isiG, tyG, clsG, clssG, O.toD, xAnd, xOr, xNot, xIf, xIfO, xT, xTO, xNotT, xAndT, xOrT, xIfT, xYes, xOp, xUn, xTup, xLst, xCh, xLc, xDc, iA, itemsD, gN, gT, gsC, gsN, sFor, sAsg, isB, iiG0, lenG, listG, tupG, leG, ltG, geG, gtG, intG, Ps.wp, wipeO, xP, xE, cP, cE, isSc, List.map_cons, List.map_nil, List.cons_append, List.nil_append, List.length_cons, List.length_nil, List.getElem?_cons_zero, List.getElem?_cons_succ, List.replicate, List.set_cons_zero, List.set_cons_succ, Nat.reduceSub, Nat.reduceAdd, if_true, if_false, Bool.false_eq_true, reduceCtorEq, truD, Bool.not_true, Bool.not_false, Option.map_some, at0, at1, at2, eqI, neI, true_and, and_true, implies_true, ne_eq, not_false_eq_true, Nat.reduceEqDiff, Bool.not_true]
  rintro d ds st ⟨n, R, o2, o3, o4, o5, o6, o7, o8, o9, o10, o11, o12, o13, o14, e1, e2, rfl⟩ N hN
  rw [List.length_cons] at e1 e2
  simp only [gN, gT, gsC, gsN, xYes, if_true, true_and, and_true, List.length_cons, List.length_nil, Nat.reduceAdd, Nat.zero_add, List.set_cons_zero, List.set_cons_succ, Ps.wp, wipeO]
  refine seq_go fun N3 h3 => ?_
  simp only [mk, sRet, sRetN, sSeq, sNx, sIf, sSet, sSetO, sEx, xU, xF, xB, xCons, xNil, xV, xC, xMv, st0, opt, looks, look, frz, frzs, isiG, tyG, clsG, clssG, O.toD, xAnd, xOr, xNot, xIf, xIfO, xT, xTO, xNotT, xAndT, xOrT, xIfT, xYes, xOp, xUn, xTup, xLst, xCh, xLc, xDc, iA, itemsD, gN, gT, gsC, gsN, sFor, sAsg, isB, iiG0, lenG, listG, tupG, leG, ltG, geG, gtG, intG, Ps.wp, wipeO, xP, xE, cP, cE, isSc, List.map_cons, List.map_nil, List.cons_append, List.nil_append, List.length_cons, List.length_nil, List.getElem?_cons_zero, List.getElem?_cons_succ, List.replicate, List.set_cons_zero, List.set_cons_succ, Nat.reduceSub, Nat.reduceAdd, if_true, if_false, Bool.false_eq_true, reduceCtorEq, truD, Bool.not_true, Bool.not_false, Option.map_some, at0, at1, at2, eqI, neI, true_and, and_true, implies_true, ne_eq, not_false_eq_true, Nat.reduceEqDiff, Bool.not_true]
  refine w_schema_drawn (m := 3) (q := 3) (by decide) (by decide) (by decide) (by decide) (by omega) fun sc g scl n1 hn1 => ?_
  simp only [mk, sRet, sRetN, sSeq, sNx, sIf, sSet, sSetO, sEx, xU, xF, xB, xCons, xNil, xV, xC, xMv, st0, opt, looks, look, frz, frzs, isiG, tyG, clsG, clssG, O.toD, xAnd, xOr, xNot, xIf, xIfO, xT, xTO, xNotT, xAndT, xOrT, xIfT, xYes, xOp, xUn, xTup, xLst, xCh, xLc, xDc, iA, itemsD, gN, gT, gsC, gsN, sFor, sAsg, isB, iiG0, lenG, listG, tupG, leG, ltG, geG, gtG, intG, Ps.wp, wipeO, xP, xE, cP, cE, isSc, List.map_cons, List.map_nil, List.cons_append, List.nil_append, List.length_cons, List.length_nil, List.getElem?_cons_zero, List.getElem?_cons_succ, List.replicate, List.set_cons_zero, List.set_cons_succ, Nat.reduceSub, Nat.reduceAdd, if_true, if_false, Bool.false_eq_true, reduceCtorEq, truD, Bool.not_true, Bool.not_false, Option.map_some, at0, at1, at2, eqI, neI, true_and, and_true, implies_true, ne_eq, not_false_eq_true, Nat.reduceEqDiff, Bool.not_true]
  refine w_lnames (m := 3) (by decide) (by omega) fun nm nml nmw nmd n2 hn2 => ?_
  simp only [mk, sRet, sRetN, sSeq, sNx, sIf, sSet, sSetO, sEx, xU, xF, xB, xCons, xNil, xV, xC, xMv, st0, opt, looks, look, frz, frzs, isiG, tyG, clsG, clssG, O.toD, xAnd, xOr, xNot, xIf, xIfO, xT, xTO, xNotT, xAndT, xOrT, xIfT, xYes, xOp, xUn, xTup, xLst, xCh, xLc, xDc, iA, itemsD, gN, gT, gsC, gsN, sFor, sAsg, isB, iiG0, lenG, listG, tupG, leG, ltG, geG, gtG, intG, Ps.wp, wipeO, xP, xE, cP, cE, isSc, List.map_cons, List.map_nil, List.cons_append, List.nil_append, List.length_cons, List.length_nil, List.getElem?_cons_zero, List.getElem?_cons_succ, List.replicate, List.set_cons_zero, List.set_cons_succ, Nat.reduceSub, Nat.reduceAdd, if_true, if_false, Bool.false_eq_true, reduceCtorEq, truD, Bool.not_true, Bool.not_false, Option.map_some, at0, at1, at2, eqI, neI, true_and, and_true, implies_true, ne_eq, not_false_eq_true, Nat.reduceEqDiff, Bool.not_true]
  refine ⟨sizeLine_le (by decide), h3 _ (seq_go fun N4 h4 => ?_)⟩
  clear h3
  simp only [mk, sRet, sRetN, sSeq, sNx, sIf, sSet, sSetO, sEx, xU, xF, xB, xCons, xNil, xV, xC, xMv, st0, opt, looks, look, frz, frzs, isiG, tyG, clsG, clssG, O.toD, xAnd, xOr, xNot, xIf, xIfO, xT, xTO, xNotT, xAndT, xOrT, xIfT, xYes, xOp, xUn, xTup, xLst, xCh, xLc, xDc, iA, itemsD, gN, gT, gsC, gsN, sFor, sAsg, isB, iiG0, lenG, listG, tupG, leG, ltG, geG, gtG, intG, Ps.wp, wipeO, xP, xE, cP, cE, isSc, List.map_cons, List.map_nil, List.cons_append, List.nil_append, List.length_cons, List.length_nil, List.getElem?_cons_zero, List.getElem?_cons_succ, List.replicate, List.set_cons_zero, List.set_cons_succ, Nat.reduceSub, Nat.reduceAdd, if_true, if_false, Bool.false_eq_true, reduceCtorEq, truD, Bool.not_true, Bool.not_false, Option.map_some, at0, at1, at2, eqI, neI, true_and, and_true, implies_true, ne_eq, not_false_eq_true, Nat.reduceEqDiff, Bool.not_true]
  refine w_rows_drawn (m := 9) g nmw (by intro z; rw [z] at nml; cases nml) (by omega) (by decide) (by omega) fun rf ok rl n3 hn3 => ?_
  simp only [mk, sRet, sRetN, sSeq, sNx, sIf, sSet, sSetO, sEx, xU, xF, xB, xCons, xNil, xV, xC, xMv, st0, opt, looks, look, frz, frzs, isiG, tyG, clsG, clssG, O.toD, xAnd, xOr, xNot, xIf, xIfO, xT, xTO, xNotT, xAndT, xOrT, xIfT, xYes, xOp, xUn, xTup, xLst, xCh, xLc, xDc, iA, itemsD, gN, gT, gsC, gsN, sFor, sAsg, isB, iiG0, lenG, listG, tupG, leG, ltG, geG, gtG, intG, Ps.wp, wipeO, xP, xE, cP, cE, isSc, List.map_cons, List.map_nil, List.cons_append, List.nil_append, List.length_cons, List.length_nil, List.getElem?_cons_zero, List.getElem?_cons_succ, List.replicate, List.set_cons_zero, List.set_cons_succ, Nat.reduceSub, Nat.reduceAdd, if_true, if_false, Bool.false_eq_true, reduceCtorEq, truD, Bool.not_true, Bool.not_false, Option.map_some, at0, at1, at2, eqI, neI, true_and, and_true, implies_true, ne_eq, not_false_eq_true, Nat.reduceEqDiff, Bool.not_true]
  refine h4 _ (seq_go fun N5 h5 => ?_)
  clear h4
  simp only [mk, sRet, sRetN, sSeq, sNx, sIf, sSet, sSetO, sEx, xU, xF, xB, xCons, xNil, xV, xC, xMv, st0, opt, looks, look, frz, frzs, isiG, tyG, clsG, clssG, O.toD, xAnd, xOr, xNot, xIf, xIfO, xT, xTO, xNotT, xAndT, xOrT, xIfT, xYes, xOp, xUn, xTup, xLst, xCh, xLc, xDc, iA, itemsD, gN, gT, gsC, gsN, sFor, sAsg, isB, iiG0, lenG, listG, tupG, leG, ltG, geG, gtG, intG, Ps.wp, wipeO, xP, xE, cP, cE, isSc, List.map_cons, List.map_nil, List.cons_append, List.nil_append, List.length_cons, List.length_nil, List.getElem?_cons_zero, List.getElem?_cons_succ, List.replicate, List.set_cons_zero, List.set_cons_succ, Nat.reduceSub, Nat.reduceAdd, if_true, if_false, Bool.false_eq_true, reduceCtorEq, truD, Bool.not_true, Bool.not_false, Option.map_some, at0, at1, at2, eqI, neI, true_and, and_true, implies_true, ne_eq, not_false_eq_true, Nat.reduceEqDiff, Bool.not_true]
  refine w_made_database fk g ok fun x => ?_
  simp only [mk, sRet, sRetN, sSeq, sNx, sIf, sSet, sSetO, sEx, xU, xF, xB, xCons, xNil, xV, xC, xMv, st0, opt, looks, look, frz, frzs, isiG, tyG, clsG, clssG, O.toD, xAnd, xOr, xNot, xIf, xIfO, xT, xTO, xNotT, xAndT, xOrT, xIfT, xYes, xOp, xUn, xTup, xLst, xCh, xLc, xDc, iA, itemsD, gN, gT, gsC, gsN, sFor, sAsg, isB, iiG0, lenG, listG, tupG, leG, ltG, geG, gtG, intG, Ps.wp, wipeO, xP, xE, cP, cE, isSc, List.map_cons, List.map_nil, List.cons_append, List.nil_append, List.length_cons, List.length_nil, List.getElem?_cons_zero, List.getElem?_cons_succ, List.replicate, List.set_cons_zero, List.set_cons_succ, Nat.reduceSub, Nat.reduceAdd, if_true, if_false, Bool.false_eq_true, reduceCtorEq, truD, Bool.not_true, Bool.not_false, Option.map_some, at0, at1, at2, eqI, neI, true_and, and_true, implies_true, ne_eq, not_false_eq_true, Nat.reduceEqDiff, Bool.not_true]
  refine h5 _ ?_
  clear h5
  simp only [sFor, iR1, xCons, xNil, xC, looks, look, opt]
  refine ⟨⟨by omega, by omega⟩, ?_⟩
  refine forW_by (fun ds' st => ∃ (n' : Nat) (p5 p8 p9 p10 p11 p12 p13 p14 : O), ds'.length ≤ 8 ∧ n' + 200 * ds'.length ≤ n3 + 1600 ∧ st = ⟨[.d d0, .d (.cell 0), .d d, .d (.dK (rowsL sc rf)), .d (.cell (R.length + 1)), p5, .d (scD sc), .d (.lst (nm.map D.str)), p8, p9, p10, p11, p12, p13, p14], .pen n' :: (R ++ [.db x cs.Database (schD cs sc) (dbK sc rf)]), true, false⟩) ?_ ?_ _ _ ⟨n3, o5, o8, o9, o10, o11, o12, o13, o14, by decide, Nat.le_refl _, rfl⟩
  · rintro st ⟨n', p5, p8, p9, p10, p11, p12, p13, p14, f1, f2, rfl⟩
    exact hN _ ⟨n', _, _, _, _, _, _, _, _, _, _, _, _, _, _, by omega, by omega, rfl⟩
  rintro d' ds' st ⟨n', p5, p8, p9, p10, p11, p12, p13, p14, f1, f2, rfl⟩ N6 hN6
  rw [List.length_cons] at f1 f2
  have hS : ∀ n', (Cell.pen n' :: (R ++ [Cell.db x cs.Database (schD cs sc) (dbK sc rf)]))[R.length + 1]? = some (.db x cs.Database (schD cs sc) (dbK sc rf)) := fun n' => by
    rw [List.getElem?_cons_succ, List.getElem?_append_right (Nat.le_refl _), Nat.sub_self]
    rfl
  simp only [gN, gT, gsC, gsN, xYes, if_true, true_and, and_true, List.length_cons, List.length_nil, Nat.reduceAdd, Nat.zero_add, List.set_cons_zero, List.set_cons_succ, Ps.wp, wipeO]
  refine seq_go fun M1 k1 => ?_
  have l1 := g.l1
  simp only [mk, sRet, sRetN, sSeq, sNx, sIf, sSet, sSetO, sEx, xU, xF, xB, xCons, xNil, xV, xC, xMv, st0, opt, looks, look, frz, frzs, isiG, tyG, clsG, clssG, O.toD, xAnd, xOr, xNot, xIf, xIfO, xT, xTO, xNotT, xAndT, xOrT, xIfT, xYes, xOp, xUn, xTup, xLst, xCh, xLc, xDc, iA, itemsD, gN, gT, gsC, gsN, sFor, sAsg, isB, iiG0, lenG, listG, tupG, leG, ltG, geG, gtG, intG, Ps.wp, wipeO, xP, xE, cP, cE, isSc, List.map_cons, List.map_nil, List.cons_append, List.nil_append, List.length_cons, List.length_nil, List.getElem?_cons_zero, List.getElem?_cons_succ, List.replicate, List.set_cons_zero, List.set_cons_succ, Nat.reduceSub, Nat.reduceAdd, if_true, if_false, Bool.false_eq_true, reduceCtorEq, truD, Bool.not_true, Bool.not_false, Option.map_some, at0, at1, at2, eqI, neI, true_and, and_true, implies_true, ne_eq, not_false_eq_true, Nat.reduceEqDiff, scD]
  refine w_pick (by omega) (by intro z; rw [List.map_eq_nil_iff] at z; rw [z] at l1; exact absurd l1 (by decide)) (by rw [List.length_map]; omega) fun y hy => ?_
  obtain ⟨t, ht, rfl⟩ := List.mem_map.mp hy
  have gt := g.t _ ht
  simp only [mk, sRet, sRetN, sSeq, sNx, sIf, sSet, sSetO, sEx, xU, xF, xB, xCons, xNil, xV, xC, xMv, st0, opt, looks, look, frz, frzs, isiG, tyG, clsG, clssG, O.toD, xAnd, xOr, xNot, xIf, xIfO, xT, xTO, xNotT, xAndT, xOrT, xIfT, xYes, xOp, xUn, xTup, xLst, xCh, xLc, xDc, iA, itemsD, gN, gT, gsC, gsN, sFor, sAsg, isB, iiG0, lenG, listG, tupG, leG, ltG, geG, gtG, intG, Ps.wp, wipeO, xP, xE, cP, cE, isSc, List.map_cons, List.map_nil, List.cons_append, List.nil_append, List.length_cons, List.length_nil, List.getElem?_cons_zero, List.getElem?_cons_succ, List.replicate, List.set_cons_zero, List.set_cons_succ, Nat.reduceSub, Nat.reduceAdd, if_true, if_false, Bool.false_eq_true, reduceCtorEq, truD, Bool.not_true, Bool.not_false, Option.map_some, at0, at1, at2, eqI, neI, true_and, and_true, implies_true, ne_eq, not_false_eq_true, Nat.reduceEqDiff, plD]
  refine k1 _ (seq_go fun M2 k2 => ?_)
  clear k1
  simp only [mk, sRet, sRetN, sSeq, sNx, sIf, sSet, sSetO, sEx, xU, xF, xB, xCons, xNil, xV, xC, xMv, st0, opt, looks, look, frz, frzs, isiG, tyG, clsG, clssG, O.toD, xAnd, xOr, xNot, xIf, xIfO, xT, xTO, xNotT, xAndT, xOrT, xIfT, xYes, xOp, xUn, xTup, xLst, xCh, xLc, xDc, iA, itemsD, gN, gT, gsC, gsN, sFor, sAsg, isB, iiG0, lenG, listG, tupG, leG, ltG, geG, gtG, intG, Ps.wp, wipeO, xP, xE, cP, cE, isSc, List.map_cons, List.map_nil, List.cons_append, List.nil_append, List.length_cons, List.length_nil, List.getElem?_cons_zero, List.getElem?_cons_succ, List.replicate, List.set_cons_zero, List.set_cons_succ, Nat.reduceSub, Nat.reduceAdd, if_true, if_false, Bool.false_eq_true, reduceCtorEq, truD, Bool.not_true, Bool.not_false, Option.map_some, at0, at1, at2, eqI, neI, true_and, and_true, implies_true, ne_eq, not_false_eq_true, Nat.reduceEqDiff, Bool.not_true]
  refine w_lets gt nmw (by omega) (by omega) fun ls lok lnd ll n5 hn5 => ?_
  simp only [mk, sRet, sRetN, sSeq, sNx, sIf, sSet, sSetO, sEx, xU, xF, xB, xCons, xNil, xV, xC, xMv, st0, opt, looks, look, frz, frzs, isiG, tyG, clsG, clssG, O.toD, xAnd, xOr, xNot, xIf, xIfO, xT, xTO, xNotT, xAndT, xOrT, xIfT, xYes, xOp, xUn, xTup, xLst, xCh, xLc, xDc, iA, itemsD, gN, gT, gsC, gsN, sFor, sAsg, isB, iiG0, lenG, listG, tupG, leG, ltG, geG, gtG, intG, Ps.wp, wipeO, xP, xE, cP, cE, isSc, List.map_cons, List.map_nil, List.cons_append, List.nil_append, List.length_cons, List.length_nil, List.getElem?_cons_zero, List.getElem?_cons_succ, List.replicate, List.set_cons_zero, List.set_cons_succ, Nat.reduceSub, Nat.reduceAdd, if_true, if_false, Bool.false_eq_true, reduceCtorEq, truD, Bool.not_true, Bool.not_false, Option.map_some, at0, at1, at2, eqI, neI, true_and, and_true, implies_true, ne_eq, not_false_eq_true, Nat.reduceEqDiff, Bool.not_true]
  refine k2 _ (seq_go fun M3 k3 => ?_)
  clear k2
  have el : (letsK ls).map (fun kv => kD kv.1) = (ls.map (·.1)).map D.str := by
    unfold letsK
    rw [List.map_map, List.map_map]
    rfl
  simp only [sSet, xB, xCons, xNil, xF, xLc, iA, xV, List.getElem?_cons_zero, List.getElem?_cons_succ, frz, opt, itemsD, el]
  refine lcW_by (fun ds acc st => ∃ (pre post : List (Str × Lt)) (p13 : O), ls = pre ++ post ∧ ds = (post.map (·.1)).map D.str ∧ acc = (wideL pre).map (fun p => D.tup [.str p.1, p.2.d]) ∧ st = ⟨[.d d0, .d (.cell 0), .d d, .d (.dK (rowsL sc rf)), .d (.cell (R.length + 1)), .d d', .d (.lst (sc.map plD)), .d (.lst (nm.map D.str)), .d (.dK (letsK ls)), p9, p10, .d (.str t.1), .d (.lst (t.2.map colD)), p13, p14], .pen n5 :: (R ++ [.db x cs.Database (schD cs sc) (dbK sc rf)]), true, false⟩) ?_ ?_ _ _ _ ⟨[], ls, p13, rfl, rfl, rfl, rfl⟩
  rotate_left
  · rintro dd dds acc st ⟨pre, post, p13, q1, q2, rfl, rfl⟩ R' hR
    cases post with
    | nil => cases q2
    | cons p post =>
      cases q2
      have hp : p ∈ ls := by rw [q1]; exact List.mem_append_right _ List.mem_cons_self
      have hpl : pre.length ≤ ls.length := by rw [q1, List.length_append]; omega
      have hv := dgG_dK (lets_val lnd hp)
      have go := hR ((wideL pre).map (fun p => D.tup [.str p.1, p.2.d]) ++ [.tup [.str p.1, p.2.wide.d]]) ⟨[.d d0, .d (.cell 0), .d d, .d (.dK (rowsL sc rf)), .d (.cell (R.length + 1)), .d d', .d (.lst (sc.map plD)), .d (.lst (nm.map D.str)), .d (.dK (letsK ls)), p9, p10, .d (.str t.1), .d (.lst (t.2.map colD)), .d (.str p.1), p14], .pen n5 :: (R ++ [.db x cs.Database (schD cs sc) (dbK sc rf)]), true, false⟩ ⟨pre ++ [p], post, _, by rw [q1, List.append_assoc]; rfl, rfl, by unfold wideL; rw [List.map_append, List.map_append]; rfl, rfl⟩
      have hwl : ((wideL pre).map (fun p => D.tup [.str p.1, p.2.d])).length < sizeLine := by unfold wideL; rw [List.length_map, List.length_map, sizeLine_eq]; omega
      cases q : p.2 with
      | w s =>
        rw [q] at hv go
        simp only [mk, sRet, sRetN, sSeq, sNx, sIf, sSet, sSetO, sEx, xU, xF, xB, xCons, xNil, xV, xC, xMv, st0, opt, looks, look, frz, frzs, isiG, tyG, clsG, clssG, O.toD, xAnd, xOr, xNot, xIf, xIfO, xT, xTO, xNotT, xAndT, xOrT, xIfT, xYes, xOp, xUn, xTup, xLst, xCh, xLc, xDc, iA, itemsD, gN, gT, gsC, gsN, sFor, sAsg, isB, iiG0, lenG, listG, tupG, leG, ltG, geG, gtG, intG, Ps.wp, wipeO, xP, xE, cP, cE, isSc, List.map_cons, List.map_nil, List.cons_append, List.nil_append, List.length_cons, List.length_nil, List.getElem?_cons_zero, List.getElem?_cons_succ, List.replicate, List.set_cons_zero, List.set_cons_succ, Nat.reduceSub, Nat.reduceAdd, if_true, if_false, Bool.false_eq_true, reduceCtorEq, truD, Bool.not_true, Bool.not_false, Option.map_some, at0, at1, at2, eqI, neI, true_and, and_true, implies_true, ne_eq, not_false_eq_true, Nat.reduceEqDiff, hv, Lt.d, kit_ss]
        exact ⟨sizeLine_le (by decide), sizeLine_le (by decide), hwl, go⟩
      | l ss =>
        rw [q] at hv go
        simp only [mk, sRet, sRetN, sSeq, sNx, sIf, sSet, sSetO, sEx, xU, xF, xB, xCons, xNil, xV, xC, xMv, st0, opt, looks, look, frz, frzs, isiG, tyG, clsG, clssG, O.toD, xAnd, xOr, xNot, xIf, xIfO, xT, xTO, xNotT, xAndT, xOrT, xIfT, xYes, xOp, xUn, xTup, xLst, xCh, xLc, xDc, iA, itemsD, gN, gT, gsC, gsN, sFor, sAsg, isB, iiG0, lenG, listG, tupG, leG, ltG, geG, gtG, intG, Ps.wp, wipeO, xP, xE, cP, cE, isSc, List.map_cons, List.map_nil, List.cons_append, List.nil_append, List.length_cons, List.length_nil, List.getElem?_cons_zero, List.getElem?_cons_succ, List.replicate, List.set_cons_zero, List.set_cons_succ, Nat.reduceSub, Nat.reduceAdd, if_true, if_false, Bool.false_eq_true, reduceCtorEq, truD, Bool.not_true, Bool.not_false, Option.map_some, at0, at1, at2, eqI, neI, true_and, and_true, implies_true, ne_eq, not_false_eq_true, Nat.reduceEqDiff, hv, Lt.d, show PySem.W.kitOne K (.type "list") (.type "str") = some false from rfl]
        exact ⟨sizeLine_le (by decide), hwl, go⟩
      | t ss =>
        rw [q] at hv go
        simp only [mk, sRet, sRetN, sSeq, sNx, sIf, sSet, sSetO, sEx, xU, xF, xB, xCons, xNil, xV, xC, xMv, st0, opt, looks, look, frz, frzs, isiG, tyG, clsG, clssG, O.toD, xAnd, xOr, xNot, xIf, xIfO, xT, xTO, xNotT, xAndT, xOrT, xIfT, xYes, xOp, xUn, xTup, xLst, xCh, xLc, xDc, iA, itemsD, gN, gT, gsC, gsN, sFor, sAsg, isB, iiG0, lenG, listG, tupG, leG, ltG, geG, gtG, intG, Ps.wp, wipeO, xP, xE, cP, cE, isSc, List.map_cons, List.map_nil, List.cons_append, List.nil_append, List.length_cons, List.length_nil, List.getElem?_cons_zero, List.getElem?_cons_succ, List.replicate, List.set_cons_zero, List.set_cons_succ, Nat.reduceSub, Nat.reduceAdd, if_true, if_false, Bool.false_eq_true, reduceCtorEq, truD, Bool.not_true, Bool.not_false, Option.map_some, at0, at1, at2, eqI, neI, true_and, and_true, implies_true, ne_eq, not_false_eq_true, Nat.reduceEqDiff, hv, Lt.d, kit_tS]
        exact ⟨sizeLine_le (by decide), hwl, go⟩
  rintro acc st ⟨pre, post, p13, q1, q2, rfl, rfl⟩
  have : post = [] := by cases post with | nil => rfl | cons _ _ => cases q2
  subst this
  rw [List.append_nil] at q1
  subst q1
  simp only [mk, sRet, sRetN, sSeq, sNx, sIf, sSet, sSetO, sEx, xU, xF, xB, xCons, xNil, xV, xC, xMv, st0, opt, looks, look, frz, frzs, isiG, tyG, clsG, clssG, O.toD, xAnd, xOr, xNot, xIf, xIfO, xT, xTO, xNotT, xAndT, xOrT, xIfT, xYes, xOp, xUn, xTup, xLst, xCh, xLc, xDc, iA, itemsD, gN, gT, gsC, gsN, sFor, sAsg, isB, iiG0, lenG, listG, tupG, leG, ltG, geG, gtG, intG, Ps.wp, wipeO, xP, xE, cP, cE, isSc, List.map_cons, List.map_nil, List.cons_append, List.nil_append, List.length_cons, List.length_nil, List.getElem?_cons_zero, List.getElem?_cons_succ, List.replicate, List.set_cons_zero, List.set_cons_succ, Nat.reduceSub, Nat.reduceAdd, if_true, if_false, Bool.false_eq_true, reduceCtorEq, truD, Bool.not_true, Bool.not_false, Option.map_some, at0, at1, at2, eqI, neI, true_and, and_true, implies_true, ne_eq, not_false_eq_true, Nat.reduceEqDiff, dictG, pairs_lets, merge_nd (acc := []) (by rw [List.nil_append]; exact lets_nd (by rw [wide_names]; exact lnd))]
  refine k3 _ (seq_go fun M4 k4 => ?_)
  clear k3
  have hwn : ((wideL ls).map (·.1)).Nodup := by rw [wide_names]; exact lnd
  have hww : ∀ p ∈ wideL ls, ∀ s, p.2 ≠ .w s := by
    intro p hp s z
    obtain ⟨p', hp', rfl⟩ := List.mem_map.mp hp
    have z' : p'.2.wide = .w s := z
    cases q : p'.2 with
    | w s' => rw [q] at z'; cases z'
    | l _ => rw [q] at z'; cases z'
    | t _ => rw [q] at z'; cases z'
  have hwl : (wideL ls).length ≤ 1000 := by unfold wideL; rw [List.length_map]; omega
  have hrv := dgG_dK (rowsL_val (rf := rf) g.nd ht)
  have hrl := rl t ht
  simp only [sSet, xB, xCons, xNil, xF, xLc, iA, xOp, xV, List.getElem?_cons_zero, List.getElem?_cons_succ, look, opt, hrv, O.toD, frz, itemsD]
  refine lcW_pure (st0 := ⟨[.d d0, .d (.cell 0), .d d, .d (.dK (rowsL sc rf)), .d (.cell (R.length + 1)), .d d', .d (.lst (sc.map plD)), .d (.lst (nm.map D.str)), .d (.dK (letsK ls)), .d (.dK (letsK (wideL ls))), p10, .d (.str t.1), .d (.lst (t.2.map colD)), .un, .un], .pen n5 :: (R ++ [.db x cs.Database (schD cs sc) (dbK sc rf)]), true, false⟩) (fun d => match d with | .tup ds => if fitB t.2 (strsOf ds) ls then some d else none | _ => none) _ _ _ rfl ?_ ?_ ?_
  · rw [List.length_map, sizeLine_eq, List.length_nil]; omega
  · intro d1 hd1 R1 R0 hR
    obtain ⟨r, hr', rfl⟩ := List.mem_map.mp hd1
    have hR2 := hR ⟨[.d d0, .d (.cell 0), .d d, .d (.dK (rowsL sc rf)), .d (.cell (R.length + 1)), .d d', .d (.lst (sc.map plD)), .d (.lst (nm.map D.str)), .d (.dK (letsK ls)), .d (.dK (letsK (wideL ls))), p10, .d (.str t.1), .d (.lst (t.2.map colD)), .un, .d (rowD r)], .pen n5 :: (R ++ [.db x cs.Database (schD cs sc) (dbK sc rf)]), true, false⟩ rfl
    have e4 : (match rowD r with | .tup ds => if fitB t.2 (strsOf ds) ls then some (rowD r) else none | _ => none) = if fitB t.2 r ls then some (rowD r) else none := by
      show (if fitB t.2 (strsOf (r.map D.str)) ls then some (rowD r) else none) = _
      rw [strsOf_map]
    rw [e4] at hR2
    simp only [gN, gT, gsC, gsN, xYes, if_true, true_and, and_true, List.length_cons, List.length_nil, Nat.reduceAdd, Nat.zero_add, List.set_cons_zero, List.set_cons_succ, Ps.wp, wipeO]
    simp only [xT, xF]
    refine xP_of [scD sc, .str t.1, rowD r, .dK (letsK (wideL ls))] (evA_cons (fun _ z => by simp only [mk, sRet, sRetN, sSeq, sNx, sIf, sSet, sSetO, sEx, xU, xF, xB, xCons, xNil, xV, xC, xMv, st0, opt, looks, look, frz, frzs, isiG, tyG, clsG, clssG, O.toD, xAnd, xOr, xNot, xIf, xIfO, xT, xTO, xNotT, xAndT, xOrT, xIfT, xYes, xOp, xUn, xTup, xLst, xCh, xLc, xDc, iA, itemsD, gN, gT, gsC, gsN, sFor, sAsg, isB, iiG0, lenG, listG, tupG, leG, ltG, geG, gtG, intG, Ps.wp, wipeO, xP, xE, cP, cE, isSc, List.map_cons, List.map_nil, List.cons_append, List.nil_append, List.length_cons, List.length_nil, List.getElem?_cons_zero, List.getElem?_cons_succ, List.replicate, List.set_cons_zero, List.set_cons_succ, Nat.reduceSub, Nat.reduceAdd, if_true, if_false, Bool.false_eq_true, reduceCtorEq, truD, Bool.not_true, Bool.not_false, Option.map_some, at0, at1, at2, eqI, neI, true_and, and_true, implies_true, ne_eq, not_false_eq_true, Nat.reduceEqDiff, Bool.not_true]; exact z) (evA_cons (fun _ z => by simp only [mk, sRet, sRetN, sSeq, sNx, sIf, sSet, sSetO, sEx, xU, xF, xB, xCons, xNil, xV, xC, xMv, st0, opt, looks, look, frz, frzs, isiG, tyG, clsG, clssG, O.toD, xAnd, xOr, xNot, xIf, xIfO, xT, xTO, xNotT, xAndT, xOrT, xIfT, xYes, xOp, xUn, xTup, xLst, xCh, xLc, xDc, iA, itemsD, gN, gT, gsC, gsN, sFor, sAsg, isB, iiG0, lenG, listG, tupG, leG, ltG, geG, gtG, intG, Ps.wp, wipeO, xP, xE, cP, cE, isSc, List.map_cons, List.map_nil, List.cons_append, List.nil_append, List.length_cons, List.length_nil, List.getElem?_cons_zero, List.getElem?_cons_succ, List.replicate, List.set_cons_zero, List.set_cons_succ, Nat.reduceSub, Nat.reduceAdd, if_true, if_false, Bool.false_eq_true, reduceCtorEq, truD, Bool.not_true, Bool.not_false, Option.map_some, at0, at1, at2, eqI, neI, true_and, and_true, implies_true, ne_eq, not_false_eq_true, Nat.reduceEqDiff, Bool.not_true]; exact z) (evA_cons (fun _ z => by simp only [mk, sRet, sRetN, sSeq, sNx, sIf, sSet, sSetO, sEx, xU, xF, xB, xCons, xNil, xV, xC, xMv, st0, opt, looks, look, frz, frzs, isiG, tyG, clsG, clssG, O.toD, xAnd, xOr, xNot, xIf, xIfO, xT, xTO, xNotT, xAndT, xOrT, xIfT, xYes, xOp, xUn, xTup, xLst, xCh, xLc, xDc, iA, itemsD, gN, gT, gsC, gsN, sFor, sAsg, isB, iiG0, lenG, listG, tupG, leG, ltG, geG, gtG, intG, Ps.wp, wipeO, xP, xE, cP, cE, isSc, List.map_cons, List.map_nil, List.cons_append, List.nil_append, List.length_cons, List.length_nil, List.getElem?_cons_zero, List.getElem?_cons_succ, List.replicate, List.set_cons_zero, List.set_cons_succ, Nat.reduceSub, Nat.reduceAdd, if_true, if_false, Bool.false_eq_true, reduceCtorEq, truD, Bool.not_true, Bool.not_false, Option.map_some, at0, at1, at2, eqI, neI, true_and, and_true, implies_true, ne_eq, not_false_eq_true, Nat.reduceEqDiff, Bool.not_true]; exact z) (evA_cons (fun _ z => by simp only [mk, sRet, sRetN, sSeq, sNx, sIf, sSet, sSetO, sEx, xU, xF, xB, xCons, xNil, xV, xC, xMv, st0, opt, looks, look, frz, frzs, isiG, tyG, clsG, clssG, O.toD, xAnd, xOr, xNot, xIf, xIfO, xT, xTO, xNotT, xAndT, xOrT, xIfT, xYes, xOp, xUn, xTup, xLst, xCh, xLc, xDc, iA, itemsD, gN, gT, gsC, gsN, sFor, sAsg, isB, iiG0, lenG, listG, tupG, leG, ltG, geG, gtG, intG, Ps.wp, wipeO, xP, xE, cP, cE, isSc, List.map_cons, List.map_nil, List.cons_append, List.nil_append, List.length_cons, List.length_nil, List.getElem?_cons_zero, List.getElem?_cons_succ, List.replicate, List.set_cons_zero, List.set_cons_succ, Nat.reduceSub, Nat.reduceAdd, if_true, if_false, Bool.false_eq_true, reduceCtorEq, truD, Bool.not_true, Bool.not_false, Option.map_some, at0, at1, at2, eqI, neI, true_and, and_true, implies_true, ne_eq, not_false_eq_true, Nat.reduceEqDiff, Bool.not_true]; exact z) evA_nil)))) rfl ?_
    refine w_row_fits g ht (ok.ok t ht r hr') (wide_ok lok) hwn hww hwl ?_
    simp only [isSc, if_true, O.toD, truD, opt, look, wide_fit]
    cases z : fitB t.2 r ls with
    | true => rw [z] at hR2; exact hR2
    | false => rw [z] at hR2; exact hR2
  have e5 : List.filterMap (fun d => match d with | D.tup ds => if fitB t.2 (strsOf ds) ls then some d else none | _ => none) ((rf t.1).map rowD) = ((rf t.1).filter fun r => fitB t.2 r ls).map rowD := by
    generalize rf t.1 = rs
    induction rs with
    | nil => rfl
    | cons r rs ih =>
      rw [List.map_cons, List.filterMap_cons, List.filter_cons]
      have e4 : (match rowD r with | .tup ds => if fitB t.2 (strsOf ds) ls then some (rowD r) else none | _ => none) = if fitB t.2 r ls then some (rowD r) else none := by
        show (if fitB t.2 (strsOf (r.map D.str)) ls then some (rowD r) else none) = _
        rw [strsOf_map]
      rw [e4]
      cases z : fitB t.2 r ls with
      | true => rw [if_pos rfl, if_pos rfl, List.map_cons, ← ih]
      | false => rw [if_neg Bool.false_ne_true, if_neg Bool.false_ne_true, ih]
  rw [e5]
  have hcl := cnt_le t (rf t.1) ls
  have ecnt : ((rf t.1).filter fun r => fitB t.2 r ls).length = cnt t (rf t.1) ls := rfl
  simp only [List.nil_append, O.toD, looks, look, opt, lenG, List.length_map, ecnt, List.set_cons_succ, List.set_cons_zero]
  refine k4 _ (seq_go fun M5 k5 => ?_)
  clear k4
  have ecls := fun ρ => cls_db (ρ := ρ) (rw := true) (vw := false) (hS n5) (show (("count" : Str) == "own_schema" || ("count" : Str) == "own_rows") = false by decide +kernel)
  simp only [sIf, xTO, xOp, xF, xB, xCons, xNil, xM, xV, List.getElem?_cons_zero, List.getElem?_cons_succ, opt, ecls, mt_cn, Bool.false_eq_true, if_false, cP, looks, look, frzs, frz, List.length_cons, List.length_nil, Nat.zero_add, Nat.reduceAdd, true_and]
  refine w_count (f := fun s => (rf s).map rowK) fk g (hS n5) ht rfl (ok.ok t ht) (ok.len t ht) lok ?_
  simp only [isSc, if_true, O.toD, opt, look, looks, reprG]
  refine ⟨num_log _ (by omega), num_log _ (by omega), ?_⟩
  rw [neS (num_ok _ (by omega)) (num_ok _ (by omega))]
  simp only [decide_true, Bool.not_true, isB, Bool.false_eq_true, if_false]
  refine k5 _ ?_
  clear k5
  simp only [sIf, xTO, xOp, xF, xB, xCons, xNil, xM, xV, xNewK, List.getElem?_cons_zero, List.getElem?_cons_succ, opt, ecls, mt_cn, Bool.false_eq_true, if_false, cP, looks, look, frzs, frz, List.length_cons, List.length_nil, Nat.zero_add, Nat.reduceAdd, true_and, O.toD]
  refine w_count (f := fun s => (rf s).map rowK) (ls := []) fk g (hS n5) ht rfl (ok.ok t ht) (ok.len t ht) ⟨fun _ z => absurd z List.not_mem_nil, fun _ z => absurd z List.not_mem_nil⟩ ?_
  simp only [isSc, if_true, O.toD, opt, look, looks, hrv, lenG, List.length_map, cnt_nil, neI, decide_true, Bool.not_true, isB, Bool.false_eq_true, if_false, sNx]
  exact hN6 _ ⟨n5, _, _, _, _, _, _, _, _, by omega, by omega, rfl⟩
end Q
namespace Q
open PySem L2 PySem.Spec PyProof.Rows
theorem all_mk {l : PySem.W.OpenLaw} {w : World} {K : PySem.W.Frag} {h : Heap} {mg : Str → Option Value} {fa C_InvalidTable C_InvalidSchema C_InvalidRow C_UnknownTable C_UnknownColumn C_Table C_Schema C_Filled C_Database a_is_word a_is_list a_are_different a_is_mark_column a_Table___init__ a_Table_name p_Table_name_ a_Table_is_row a_Schema___init__ a_Schema_names p_Schema_names_ a_Schema___contains__ a_Schema___getitem__ a_fits a_Database___init__ a_Database_need_table a_Database_need_rows a_Database___setitem__ a_Database_count a__law_pen a__law_draw a__law_pick a__law_shuffled a__law_words a__law_columns_of a__law_spot a__law_row_fits a__law_made_table a__law_made_schema a__law_made_database a__law_schema_drawn a__law_names a__law_row_drawn a__law_rows_drawn a__law_lets a_law : Addr} {t_MAX_WORD t_MAX_TABLES t_MAX_COLUMNS t_SMALL t_MAX_MARKS : Tok} (X : K.In h) (G : h.Ns mainGlobals mg) (hfa : mg "law" = some (.ref fa))
    {od_is_word an_is_word : Option Addr} {sl_is_word : Array (Option Value)} {oc_is_word kV_is_word dc_is_word pm_is_word cd_is_word ct_is_word : Value}
    {od_is_list an_is_list : Option Addr} {sl_is_list : Array (Option Value)} {oc_is_list kV_is_list dc_is_list pm_is_list cd_is_list ct_is_list : Value}
    {od_are_different an_are_different : Option Addr} {sl_are_different : Array (Option Value)} {oc_are_different kV_are_different dc_are_different pm_are_different cd_are_different ct_are_different : Value}
    {od_is_mark_column an_is_mark_column : Option Addr} {sl_is_mark_column : Array (Option Value)} {oc_is_mark_column kV_is_mark_column dc_is_mark_column pm_is_mark_column cd_is_mark_column ct_is_mark_column : Value}
    {od_Table___init__ an_Table___init__ : Option Addr} {sl_Table___init__ : Array (Option Value)} {oc_Table___init__ kV_Table___init__ dc_Table___init__ pm_Table___init__ cd_Table___init__ ct_Table___init__ : Value}
    {od_Table_name an_Table_name : Option Addr} {sl_Table_name : Array (Option Value)} {oc_Table_name kV_Table_name dc_Table_name pm_Table_name cd_Table_name ct_Table_name : Value}
    {re_Table_name : List Value}
    {od_Table_is_row an_Table_is_row : Option Addr} {sl_Table_is_row : Array (Option Value)} {oc_Table_is_row kV_Table_is_row dc_Table_is_row pm_Table_is_row cd_Table_is_row ct_Table_is_row : Value}
    {od_Schema___init__ an_Schema___init__ : Option Addr} {sl_Schema___init__ : Array (Option Value)} {oc_Schema___init__ kV_Schema___init__ dc_Schema___init__ pm_Schema___init__ cd_Schema___init__ ct_Schema___init__ : Value}
    {od_Schema_names an_Schema_names : Option Addr} {sl_Schema_names : Array (Option Value)} {oc_Schema_names kV_Schema_names dc_Schema_names pm_Schema_names cd_Schema_names ct_Schema_names : Value}
    {re_Schema_names : List Value}
    {od_Schema___contains__ an_Schema___contains__ : Option Addr} {sl_Schema___contains__ : Array (Option Value)} {oc_Schema___contains__ kV_Schema___contains__ dc_Schema___contains__ pm_Schema___contains__ cd_Schema___contains__ ct_Schema___contains__ : Value}
    {od_Schema___getitem__ an_Schema___getitem__ : Option Addr} {sl_Schema___getitem__ : Array (Option Value)} {oc_Schema___getitem__ kV_Schema___getitem__ dc_Schema___getitem__ pm_Schema___getitem__ cd_Schema___getitem__ ct_Schema___getitem__ : Value}
    {od_fits an_fits : Option Addr} {sl_fits : Array (Option Value)} {oc_fits kV_fits dc_fits pm_fits cd_fits ct_fits : Value}
    {od_Database___init__ an_Database___init__ : Option Addr} {sl_Database___init__ : Array (Option Value)} {oc_Database___init__ kV_Database___init__ dc_Database___init__ pm_Database___init__ cd_Database___init__ ct_Database___init__ : Value}
    {od_Database_need_table an_Database_need_table : Option Addr} {sl_Database_need_table : Array (Option Value)} {oc_Database_need_table kV_Database_need_table dc_Database_need_table pm_Database_need_table cd_Database_need_table ct_Database_need_table : Value}
    {od_Database_need_rows an_Database_need_rows : Option Addr} {sl_Database_need_rows : Array (Option Value)} {oc_Database_need_rows kV_Database_need_rows dc_Database_need_rows pm_Database_need_rows cd_Database_need_rows ct_Database_need_rows : Value}
    {od_Database___setitem__ an_Database___setitem__ : Option Addr} {sl_Database___setitem__ : Array (Option Value)} {oc_Database___setitem__ kV_Database___setitem__ dc_Database___setitem__ pm_Database___setitem__ cd_Database___setitem__ ct_Database___setitem__ : Value}
    {od_Database_count an_Database_count : Option Addr} {sl_Database_count : Array (Option Value)} {oc_Database_count kV_Database_count dc_Database_count pm_Database_count cd_Database_count ct_Database_count : Value}
    {od__law_pen an__law_pen : Option Addr} {sl__law_pen : Array (Option Value)} {oc__law_pen kV__law_pen dc__law_pen pm__law_pen cd__law_pen ct__law_pen : Value}
    {od__law_draw an__law_draw : Option Addr} {sl__law_draw : Array (Option Value)} {oc__law_draw kV__law_draw dc__law_draw pm__law_draw cd__law_draw ct__law_draw : Value}
    {od__law_pick an__law_pick : Option Addr} {sl__law_pick : Array (Option Value)} {oc__law_pick kV__law_pick dc__law_pick pm__law_pick cd__law_pick ct__law_pick : Value}
    {od__law_shuffled an__law_shuffled : Option Addr} {sl__law_shuffled : Array (Option Value)} {oc__law_shuffled kV__law_shuffled dc__law_shuffled pm__law_shuffled cd__law_shuffled ct__law_shuffled : Value}
    {od__law_words an__law_words : Option Addr} {sl__law_words : Array (Option Value)} {oc__law_words kV__law_words dc__law_words pm__law_words cd__law_words ct__law_words : Value}
    {od__law_columns_of an__law_columns_of : Option Addr} {sl__law_columns_of : Array (Option Value)} {oc__law_columns_of kV__law_columns_of dc__law_columns_of pm__law_columns_of cd__law_columns_of ct__law_columns_of : Value}
    {od__law_spot an__law_spot : Option Addr} {sl__law_spot : Array (Option Value)} {oc__law_spot kV__law_spot dc__law_spot pm__law_spot cd__law_spot ct__law_spot : Value}
    {od__law_row_fits an__law_row_fits : Option Addr} {sl__law_row_fits : Array (Option Value)} {oc__law_row_fits kV__law_row_fits dc__law_row_fits pm__law_row_fits cd__law_row_fits ct__law_row_fits : Value}
    {od__law_made_table an__law_made_table : Option Addr} {sl__law_made_table : Array (Option Value)} {oc__law_made_table kV__law_made_table dc__law_made_table pm__law_made_table cd__law_made_table ct__law_made_table : Value}
    {od__law_made_schema an__law_made_schema : Option Addr} {sl__law_made_schema : Array (Option Value)} {oc__law_made_schema kV__law_made_schema dc__law_made_schema pm__law_made_schema cd__law_made_schema ct__law_made_schema : Value}
    {od__law_made_database an__law_made_database : Option Addr} {sl__law_made_database : Array (Option Value)} {oc__law_made_database kV__law_made_database dc__law_made_database pm__law_made_database cd__law_made_database ct__law_made_database : Value}
    {od__law_schema_drawn an__law_schema_drawn : Option Addr} {sl__law_schema_drawn : Array (Option Value)} {oc__law_schema_drawn kV__law_schema_drawn dc__law_schema_drawn pm__law_schema_drawn cd__law_schema_drawn ct__law_schema_drawn : Value}
    {od__law_names an__law_names : Option Addr} {sl__law_names : Array (Option Value)} {oc__law_names kV__law_names dc__law_names pm__law_names cd__law_names ct__law_names : Value}
    {od__law_row_drawn an__law_row_drawn : Option Addr} {sl__law_row_drawn : Array (Option Value)} {oc__law_row_drawn kV__law_row_drawn dc__law_row_drawn pm__law_row_drawn cd__law_row_drawn ct__law_row_drawn : Value}
    {od__law_rows_drawn an__law_rows_drawn : Option Addr} {sl__law_rows_drawn : Array (Option Value)} {oc__law_rows_drawn kV__law_rows_drawn dc__law_rows_drawn pm__law_rows_drawn cd__law_rows_drawn ct__law_rows_drawn : Value}
    {od__law_lets an__law_lets : Option Addr} {sl__law_lets : Array (Option Value)} {oc__law_lets kV__law_lets dc__law_lets pm__law_lets cd__law_lets ct__law_lets : Value}
    {od_law an_law : Option Addr} {sl_law : Array (Option Value)} {oc_law kV_law dc_law pm_law cd_law ct_law : Value}
    (aC_InvalidTable : PySem.W.nsIn K mainGlobals "InvalidTable" = some (some (.ref C_InvalidTable)))
    (aC_InvalidSchema : PySem.W.nsIn K mainGlobals "InvalidSchema" = some (some (.ref C_InvalidSchema)))
    (aC_InvalidRow : PySem.W.nsIn K mainGlobals "InvalidRow" = some (some (.ref C_InvalidRow)))
    (aC_UnknownTable : PySem.W.nsIn K mainGlobals "UnknownTable" = some (some (.ref C_UnknownTable)))
    (aC_UnknownColumn : PySem.W.nsIn K mainGlobals "UnknownColumn" = some (some (.ref C_UnknownColumn)))
    (aC_Table : PySem.W.nsIn K mainGlobals "Table" = some (some (.ref C_Table)))
    (aC_Schema : PySem.W.nsIn K mainGlobals "Schema" = some (some (.ref C_Schema)))
    (aC_Filled : PySem.W.nsIn K mainGlobals "Filled" = some (some (.ref C_Filled)))
    (aC_Database : PySem.W.nsIn K mainGlobals "Database" = some (some (.ref C_Database)))
    (pg_Table : PySem.W.plainGet K C_Table Str.empty = true)
    (hd_Table : PySem.W.hasDictIn K C_Table = true)
    (po_Table : PySem.W.plainOver K C_Table = true)
    (sa_Table : PySem.W.findIn K (.ref C_Table) "__setattr__" = some (some (.builtin "object.__setattr__")))
    (pg_Schema : PySem.W.plainGet K C_Schema Str.empty = true)
    (hd_Schema : PySem.W.hasDictIn K C_Schema = true)
    (po_Schema : PySem.W.plainOver K C_Schema = true)
    (sa_Schema : PySem.W.findIn K (.ref C_Schema) "__setattr__" = some (some (.builtin "object.__setattr__")))
    (pg_Database : PySem.W.plainGet K C_Database Str.empty = true)
    (hd_Database : PySem.W.hasDictIn K C_Database = true)
    (po_Database : PySem.W.plainOver K C_Database = true)
    (sa_Database : PySem.W.findIn K (.ref C_Database) "__setattr__" = some (some (.builtin "object.__setattr__")))
    (n_Table_own_name : PySem.W.findIn K (.ref C_Table) "own_name" = some none)
    (n_Table_own_columns : PySem.W.findIn K (.ref C_Table) "own_columns" = some none)
    (n_Table_own_marks : PySem.W.findIn K (.ref C_Table) "own_marks" = some none)
    (n_Table_own_positions : PySem.W.findIn K (.ref C_Table) "own_positions" = some none)
    (n_Schema_own_tables : PySem.W.findIn K (.ref C_Schema) "own_tables" = some none)
    (n_Database_own_schema : PySem.W.findIn K (.ref C_Database) "own_schema" = some none)
    (n_Database_own_rows : PySem.W.findIn K (.ref C_Database) "own_rows" = some none)
    (ia_Table : PySem.W.findIn K (.ref C_Table) "__class__" = some (some (.builtin "object.__class__")))
    (im_Table : PySem.W.mroIn K C_Table (.type "object") = some true)
    (ia_Schema : PySem.W.findIn K (.ref C_Schema) "__class__" = some (some (.builtin "object.__class__")))
    (im_Schema : PySem.W.mroIn K C_Schema (.type "object") = some true)
    (io_n : PySem.W.specialIn K (.builtin "object.__class__") "__get__" = some (some (.builtin "getset_descriptor.__get__")))
    (io_t : PySem.W.takesIn K (.builtin "object.__class__") = some true)
    (kk0 : PySem.W.kitOne K (.ref C_Table) (.ref C_Table) = some true)
    (kk1 : PySem.W.kitOne K (.ref C_Schema) (.ref C_Filled) = some false)
    (h_is_word : PySem.W.nsIn K mainGlobals "is_word" = some (some (.ref a_is_word)))
    (l_is_word : K.lookup a_is_word = some ⟨oc_is_word, od_is_word, .func (PySem.W.fnOf "is_word" "is_word" (defArgs s_is_word) (defBody s_is_word) (defScope s_is_word) .none kV_is_word dc_is_word pm_is_word an_is_word cd_is_word ct_is_word), sl_is_word⟩)
    (c_is_word : PySem.W.codeIn K cd_is_word "is_word" = true)
    (k_is_word : PySem.W.keepIn K (.ref a_is_word) = true)
    (h_is_list : PySem.W.nsIn K mainGlobals "is_list" = some (some (.ref a_is_list)))
    (l_is_list : K.lookup a_is_list = some ⟨oc_is_list, od_is_list, .func (PySem.W.fnOf "is_list" "is_list" (defArgs s_is_list) (defBody s_is_list) (defScope s_is_list) .none kV_is_list dc_is_list pm_is_list an_is_list cd_is_list ct_is_list), sl_is_list⟩)
    (c_is_list : PySem.W.codeIn K cd_is_list "is_list" = true)
    (k_is_list : PySem.W.keepIn K (.ref a_is_list) = true)
    (h_are_different : PySem.W.nsIn K mainGlobals "are_different" = some (some (.ref a_are_different)))
    (l_are_different : K.lookup a_are_different = some ⟨oc_are_different, od_are_different, .func (PySem.W.fnOf "are_different" "are_different" (defArgs s_are_different) (defBody s_are_different) (defScope s_are_different) .none kV_are_different dc_are_different pm_are_different an_are_different cd_are_different ct_are_different), sl_are_different⟩)
    (c_are_different : PySem.W.codeIn K cd_are_different "are_different" = true)
    (k_are_different : PySem.W.keepIn K (.ref a_are_different) = true)
    (h_is_mark_column : PySem.W.nsIn K mainGlobals "is_mark_column" = some (some (.ref a_is_mark_column)))
    (l_is_mark_column : K.lookup a_is_mark_column = some ⟨oc_is_mark_column, od_is_mark_column, .func (PySem.W.fnOf "is_mark_column" "is_mark_column" (defArgs s_is_mark_column) (defBody s_is_mark_column) (defScope s_is_mark_column) .none kV_is_mark_column dc_is_mark_column pm_is_mark_column an_is_mark_column cd_is_mark_column ct_is_mark_column), sl_is_mark_column⟩)
    (c_is_mark_column : PySem.W.codeIn K cd_is_mark_column "is_mark_column" = true)
    (k_is_mark_column : PySem.W.keepIn K (.ref a_is_mark_column) = true)
    (h_Table___init__ : PySem.W.findIn K (.ref C_Table) "__init__" = some (some (.ref a_Table___init__)))
    (l_Table___init__ : K.lookup a_Table___init__ = some ⟨oc_Table___init__, od_Table___init__, .func (PySem.W.fnOf "__init__" "Table.__init__" (defArgs s_Table___init__) (defBody s_Table___init__) (defScope s_Table___init__) .none kV_Table___init__ dc_Table___init__ pm_Table___init__ an_Table___init__ cd_Table___init__ ct_Table___init__), sl_Table___init__⟩)
    (c_Table___init__ : PySem.W.codeIn K cd_Table___init__ "Table.__init__" = true)
    (k_Table___init__ : PySem.W.keepIn K (.ref a_Table___init__) = true)
    (if_Table___init__ : PySem.W.isFn K (.ref a_Table___init__) = true)
    (mk_Table : PySem.W.makesIn K C_Table = true)
    (kc_Table : PySem.W.keepIn K (.ref C_Table) = true)
    (h_Table_name : PySem.W.findIn K (.ref C_Table) "name" = some (some (.ref p_Table_name_)))
    (pg_Table_name : PySem.W.specialIn K (.ref p_Table_name_) "__get__" = some (some (.builtin "property.__get__")))
    (pt_Table_name : PySem.W.takesIn K (.ref p_Table_name_) = some true)
    (pr_Table_name : PySem.W.recIn K p_Table_name_ "property" = some (.ref a_Table_name :: re_Table_name))
    (l_Table_name : K.lookup a_Table_name = some ⟨oc_Table_name, od_Table_name, .func (PySem.W.fnOf "name" "Table.name" (defArgs s_Table_name) (defBody s_Table_name) (defScope s_Table_name) .none kV_Table_name dc_Table_name pm_Table_name an_Table_name cd_Table_name ct_Table_name), sl_Table_name⟩)
    (c_Table_name : PySem.W.codeIn K cd_Table_name "Table.name" = true)
    (k_Table_name : PySem.W.keepIn K (.ref a_Table_name) = true)
    (h_Table_is_row : PySem.W.findIn K (.ref C_Table) "is_row" = some (some (.ref a_Table_is_row)))
    (l_Table_is_row : K.lookup a_Table_is_row = some ⟨oc_Table_is_row, od_Table_is_row, .func (PySem.W.fnOf "is_row" "Table.is_row" (defArgs s_Table_is_row) (defBody s_Table_is_row) (defScope s_Table_is_row) .none kV_Table_is_row dc_Table_is_row pm_Table_is_row an_Table_is_row cd_Table_is_row ct_Table_is_row), sl_Table_is_row⟩)
    (c_Table_is_row : PySem.W.codeIn K cd_Table_is_row "Table.is_row" = true)
    (k_Table_is_row : PySem.W.keepIn K (.ref a_Table_is_row) = true)
    (if_Table_is_row : PySem.W.isFn K (.ref a_Table_is_row) = true)
    (h_Schema___init__ : PySem.W.findIn K (.ref C_Schema) "__init__" = some (some (.ref a_Schema___init__)))
    (l_Schema___init__ : K.lookup a_Schema___init__ = some ⟨oc_Schema___init__, od_Schema___init__, .func (PySem.W.fnOf "__init__" "Schema.__init__" (defArgs s_Schema___init__) (defBody s_Schema___init__) (defScope s_Schema___init__) .none kV_Schema___init__ dc_Schema___init__ pm_Schema___init__ an_Schema___init__ cd_Schema___init__ ct_Schema___init__), sl_Schema___init__⟩)
    (c_Schema___init__ : PySem.W.codeIn K cd_Schema___init__ "Schema.__init__" = true)
    (k_Schema___init__ : PySem.W.keepIn K (.ref a_Schema___init__) = true)
    (if_Schema___init__ : PySem.W.isFn K (.ref a_Schema___init__) = true)
    (mk_Schema : PySem.W.makesIn K C_Schema = true)
    (kc_Schema : PySem.W.keepIn K (.ref C_Schema) = true)
    (h_Schema_names : PySem.W.findIn K (.ref C_Schema) "names" = some (some (.ref p_Schema_names_)))
    (pg_Schema_names : PySem.W.specialIn K (.ref p_Schema_names_) "__get__" = some (some (.builtin "property.__get__")))
    (pt_Schema_names : PySem.W.takesIn K (.ref p_Schema_names_) = some true)
    (pr_Schema_names : PySem.W.recIn K p_Schema_names_ "property" = some (.ref a_Schema_names :: re_Schema_names))
    (l_Schema_names : K.lookup a_Schema_names = some ⟨oc_Schema_names, od_Schema_names, .func (PySem.W.fnOf "names" "Schema.names" (defArgs s_Schema_names) (defBody s_Schema_names) (defScope s_Schema_names) .none kV_Schema_names dc_Schema_names pm_Schema_names an_Schema_names cd_Schema_names ct_Schema_names), sl_Schema_names⟩)
    (c_Schema_names : PySem.W.codeIn K cd_Schema_names "Schema.names" = true)
    (k_Schema_names : PySem.W.keepIn K (.ref a_Schema_names) = true)
    (h_Schema___contains__ : PySem.W.findIn K (.ref C_Schema) "__contains__" = some (some (.ref a_Schema___contains__)))
    (l_Schema___contains__ : K.lookup a_Schema___contains__ = some ⟨oc_Schema___contains__, od_Schema___contains__, .func (PySem.W.fnOf "__contains__" "Schema.__contains__" (defArgs s_Schema___contains__) (defBody s_Schema___contains__) (defScope s_Schema___contains__) .none kV_Schema___contains__ dc_Schema___contains__ pm_Schema___contains__ an_Schema___contains__ cd_Schema___contains__ ct_Schema___contains__), sl_Schema___contains__⟩)
    (c_Schema___contains__ : PySem.W.codeIn K cd_Schema___contains__ "Schema.__contains__" = true)
    (k_Schema___contains__ : PySem.W.keepIn K (.ref a_Schema___contains__) = true)
    (if_Schema___contains__ : PySem.W.isFn K (.ref a_Schema___contains__) = true)
    (h_Schema___getitem__ : PySem.W.findIn K (.ref C_Schema) "__getitem__" = some (some (.ref a_Schema___getitem__)))
    (l_Schema___getitem__ : K.lookup a_Schema___getitem__ = some ⟨oc_Schema___getitem__, od_Schema___getitem__, .func (PySem.W.fnOf "__getitem__" "Schema.__getitem__" (defArgs s_Schema___getitem__) (defBody s_Schema___getitem__) (defScope s_Schema___getitem__) .none kV_Schema___getitem__ dc_Schema___getitem__ pm_Schema___getitem__ an_Schema___getitem__ cd_Schema___getitem__ ct_Schema___getitem__), sl_Schema___getitem__⟩)
    (c_Schema___getitem__ : PySem.W.codeIn K cd_Schema___getitem__ "Schema.__getitem__" = true)
    (k_Schema___getitem__ : PySem.W.keepIn K (.ref a_Schema___getitem__) = true)
    (if_Schema___getitem__ : PySem.W.isFn K (.ref a_Schema___getitem__) = true)
    (fi_Schema___getitem__ : PySem.W.fnIn K a_Schema___getitem__ = true)
    (h_fits : PySem.W.nsIn K mainGlobals "fits" = some (some (.ref a_fits)))
    (l_fits : K.lookup a_fits = some ⟨oc_fits, od_fits, .func (PySem.W.fnOf "fits" "fits" (defArgs s_fits) (defBody s_fits) (defScope s_fits) .none kV_fits dc_fits pm_fits an_fits cd_fits ct_fits), sl_fits⟩)
    (c_fits : PySem.W.codeIn K cd_fits "fits" = true)
    (k_fits : PySem.W.keepIn K (.ref a_fits) = true)
    (h_Database___init__ : PySem.W.findIn K (.ref C_Database) "__init__" = some (some (.ref a_Database___init__)))
    (l_Database___init__ : K.lookup a_Database___init__ = some ⟨oc_Database___init__, od_Database___init__, .func (PySem.W.fnOf "__init__" "Database.__init__" (defArgs s_Database___init__) (defBody s_Database___init__) (defScope s_Database___init__) .none kV_Database___init__ dc_Database___init__ pm_Database___init__ an_Database___init__ cd_Database___init__ ct_Database___init__), sl_Database___init__⟩)
    (c_Database___init__ : PySem.W.codeIn K cd_Database___init__ "Database.__init__" = true)
    (k_Database___init__ : PySem.W.keepIn K (.ref a_Database___init__) = true)
    (if_Database___init__ : PySem.W.isFn K (.ref a_Database___init__) = true)
    (mk_Database : PySem.W.makesIn K C_Database = true)
    (kc_Database : PySem.W.keepIn K (.ref C_Database) = true)
    (h_Database_need_table : PySem.W.findIn K (.ref C_Database) "need_table" = some (some (.ref a_Database_need_table)))
    (l_Database_need_table : K.lookup a_Database_need_table = some ⟨oc_Database_need_table, od_Database_need_table, .func (PySem.W.fnOf "need_table" "Database.need_table" (defArgs s_Database_need_table) (defBody s_Database_need_table) (defScope s_Database_need_table) .none kV_Database_need_table dc_Database_need_table pm_Database_need_table an_Database_need_table cd_Database_need_table ct_Database_need_table), sl_Database_need_table⟩)
    (c_Database_need_table : PySem.W.codeIn K cd_Database_need_table "Database.need_table" = true)
    (k_Database_need_table : PySem.W.keepIn K (.ref a_Database_need_table) = true)
    (if_Database_need_table : PySem.W.isFn K (.ref a_Database_need_table) = true)
    (h_Database_need_rows : PySem.W.findIn K (.ref C_Database) "need_rows" = some (some (.ref a_Database_need_rows)))
    (l_Database_need_rows : K.lookup a_Database_need_rows = some ⟨oc_Database_need_rows, od_Database_need_rows, .func (PySem.W.fnOf "need_rows" "Database.need_rows" (defArgs s_Database_need_rows) (defBody s_Database_need_rows) (defScope s_Database_need_rows) .none kV_Database_need_rows dc_Database_need_rows pm_Database_need_rows an_Database_need_rows cd_Database_need_rows ct_Database_need_rows), sl_Database_need_rows⟩)
    (c_Database_need_rows : PySem.W.codeIn K cd_Database_need_rows "Database.need_rows" = true)
    (k_Database_need_rows : PySem.W.keepIn K (.ref a_Database_need_rows) = true)
    (if_Database_need_rows : PySem.W.isFn K (.ref a_Database_need_rows) = true)
    (h_Database___setitem__ : PySem.W.findIn K (.ref C_Database) "__setitem__" = some (some (.ref a_Database___setitem__)))
    (l_Database___setitem__ : K.lookup a_Database___setitem__ = some ⟨oc_Database___setitem__, od_Database___setitem__, .func (PySem.W.fnOf "__setitem__" "Database.__setitem__" (defArgs s_Database___setitem__) (defBody s_Database___setitem__) (defScope s_Database___setitem__) .none kV_Database___setitem__ dc_Database___setitem__ pm_Database___setitem__ an_Database___setitem__ cd_Database___setitem__ ct_Database___setitem__), sl_Database___setitem__⟩)
    (c_Database___setitem__ : PySem.W.codeIn K cd_Database___setitem__ "Database.__setitem__" = true)
    (k_Database___setitem__ : PySem.W.keepIn K (.ref a_Database___setitem__) = true)
    (if_Database___setitem__ : PySem.W.isFn K (.ref a_Database___setitem__) = true)
    (nq_Database : PySem.W.noSeq K C_Database = true)
    (h_Database_count : PySem.W.findIn K (.ref C_Database) "count" = some (some (.ref a_Database_count)))
    (l_Database_count : K.lookup a_Database_count = some ⟨oc_Database_count, od_Database_count, .func (PySem.W.fnOf "count" "Database.count" (defArgs s_Database_count) (defBody s_Database_count) (defScope s_Database_count) .none kV_Database_count dc_Database_count pm_Database_count an_Database_count cd_Database_count ct_Database_count), sl_Database_count⟩)
    (c_Database_count : PySem.W.codeIn K cd_Database_count "Database.count" = true)
    (k_Database_count : PySem.W.keepIn K (.ref a_Database_count) = true)
    (if_Database_count : PySem.W.isFn K (.ref a_Database_count) = true)
    (h__law_pen : PySem.W.nsIn K mainGlobals "_law_pen" = some (some (.ref a__law_pen)))
    (l__law_pen : K.lookup a__law_pen = some ⟨oc__law_pen, od__law_pen, .func (PySem.W.fnOf "_law_pen" "_law_pen" (defArgs s__law_pen) (defBody s__law_pen) (defScope s__law_pen) .none kV__law_pen dc__law_pen pm__law_pen an__law_pen cd__law_pen ct__law_pen), sl__law_pen⟩)
    (c__law_pen : PySem.W.codeIn K cd__law_pen "_law_pen" = true)
    (k__law_pen : PySem.W.keepIn K (.ref a__law_pen) = true)
    (h__law_draw : PySem.W.nsIn K mainGlobals "_law_draw" = some (some (.ref a__law_draw)))
    (l__law_draw : K.lookup a__law_draw = some ⟨oc__law_draw, od__law_draw, .func (PySem.W.fnOf "_law_draw" "_law_draw" (defArgs s__law_draw) (defBody s__law_draw) (defScope s__law_draw) .none kV__law_draw dc__law_draw pm__law_draw an__law_draw cd__law_draw ct__law_draw), sl__law_draw⟩)
    (c__law_draw : PySem.W.codeIn K cd__law_draw "_law_draw" = true)
    (k__law_draw : PySem.W.keepIn K (.ref a__law_draw) = true)
    (h__law_pick : PySem.W.nsIn K mainGlobals "_law_pick" = some (some (.ref a__law_pick)))
    (l__law_pick : K.lookup a__law_pick = some ⟨oc__law_pick, od__law_pick, .func (PySem.W.fnOf "_law_pick" "_law_pick" (defArgs s__law_pick) (defBody s__law_pick) (defScope s__law_pick) .none kV__law_pick dc__law_pick pm__law_pick an__law_pick cd__law_pick ct__law_pick), sl__law_pick⟩)
    (c__law_pick : PySem.W.codeIn K cd__law_pick "_law_pick" = true)
    (k__law_pick : PySem.W.keepIn K (.ref a__law_pick) = true)
    (h__law_shuffled : PySem.W.nsIn K mainGlobals "_law_shuffled" = some (some (.ref a__law_shuffled)))
    (l__law_shuffled : K.lookup a__law_shuffled = some ⟨oc__law_shuffled, od__law_shuffled, .func (PySem.W.fnOf "_law_shuffled" "_law_shuffled" (defArgs s__law_shuffled) (defBody s__law_shuffled) (defScope s__law_shuffled) .none kV__law_shuffled dc__law_shuffled pm__law_shuffled an__law_shuffled cd__law_shuffled ct__law_shuffled), sl__law_shuffled⟩)
    (c__law_shuffled : PySem.W.codeIn K cd__law_shuffled "_law_shuffled" = true)
    (k__law_shuffled : PySem.W.keepIn K (.ref a__law_shuffled) = true)
    (h__law_words : PySem.W.nsIn K mainGlobals "_law_words" = some (some (.ref a__law_words)))
    (l__law_words : K.lookup a__law_words = some ⟨oc__law_words, od__law_words, .func (PySem.W.fnOf "_law_words" "_law_words" (defArgs s__law_words) (defBody s__law_words) (defScope s__law_words) .none kV__law_words dc__law_words pm__law_words an__law_words cd__law_words ct__law_words), sl__law_words⟩)
    (c__law_words : PySem.W.codeIn K cd__law_words "_law_words" = true)
    (k__law_words : PySem.W.keepIn K (.ref a__law_words) = true)
    (h__law_columns_of : PySem.W.nsIn K mainGlobals "_law_columns_of" = some (some (.ref a__law_columns_of)))
    (l__law_columns_of : K.lookup a__law_columns_of = some ⟨oc__law_columns_of, od__law_columns_of, .func (PySem.W.fnOf "_law_columns_of" "_law_columns_of" (defArgs s__law_columns_of) (defBody s__law_columns_of) (defScope s__law_columns_of) .none kV__law_columns_of dc__law_columns_of pm__law_columns_of an__law_columns_of cd__law_columns_of ct__law_columns_of), sl__law_columns_of⟩)
    (c__law_columns_of : PySem.W.codeIn K cd__law_columns_of "_law_columns_of" = true)
    (k__law_columns_of : PySem.W.keepIn K (.ref a__law_columns_of) = true)
    (h__law_spot : PySem.W.nsIn K mainGlobals "_law_spot" = some (some (.ref a__law_spot)))
    (l__law_spot : K.lookup a__law_spot = some ⟨oc__law_spot, od__law_spot, .func (PySem.W.fnOf "_law_spot" "_law_spot" (defArgs s__law_spot) (defBody s__law_spot) (defScope s__law_spot) .none kV__law_spot dc__law_spot pm__law_spot an__law_spot cd__law_spot ct__law_spot), sl__law_spot⟩)
    (c__law_spot : PySem.W.codeIn K cd__law_spot "_law_spot" = true)
    (k__law_spot : PySem.W.keepIn K (.ref a__law_spot) = true)
    (h__law_row_fits : PySem.W.nsIn K mainGlobals "_law_row_fits" = some (some (.ref a__law_row_fits)))
    (l__law_row_fits : K.lookup a__law_row_fits = some ⟨oc__law_row_fits, od__law_row_fits, .func (PySem.W.fnOf "_law_row_fits" "_law_row_fits" (defArgs s__law_row_fits) (defBody s__law_row_fits) (defScope s__law_row_fits) .none kV__law_row_fits dc__law_row_fits pm__law_row_fits an__law_row_fits cd__law_row_fits ct__law_row_fits), sl__law_row_fits⟩)
    (c__law_row_fits : PySem.W.codeIn K cd__law_row_fits "_law_row_fits" = true)
    (k__law_row_fits : PySem.W.keepIn K (.ref a__law_row_fits) = true)
    (h__law_made_table : PySem.W.nsIn K mainGlobals "_law_made_table" = some (some (.ref a__law_made_table)))
    (l__law_made_table : K.lookup a__law_made_table = some ⟨oc__law_made_table, od__law_made_table, .func (PySem.W.fnOf "_law_made_table" "_law_made_table" (defArgs s__law_made_table) (defBody s__law_made_table) (defScope s__law_made_table) .none kV__law_made_table dc__law_made_table pm__law_made_table an__law_made_table cd__law_made_table ct__law_made_table), sl__law_made_table⟩)
    (c__law_made_table : PySem.W.codeIn K cd__law_made_table "_law_made_table" = true)
    (k__law_made_table : PySem.W.keepIn K (.ref a__law_made_table) = true)
    (h__law_made_schema : PySem.W.nsIn K mainGlobals "_law_made_schema" = some (some (.ref a__law_made_schema)))
    (l__law_made_schema : K.lookup a__law_made_schema = some ⟨oc__law_made_schema, od__law_made_schema, .func (PySem.W.fnOf "_law_made_schema" "_law_made_schema" (defArgs s__law_made_schema) (defBody s__law_made_schema) (defScope s__law_made_schema) .none kV__law_made_schema dc__law_made_schema pm__law_made_schema an__law_made_schema cd__law_made_schema ct__law_made_schema), sl__law_made_schema⟩)
    (c__law_made_schema : PySem.W.codeIn K cd__law_made_schema "_law_made_schema" = true)
    (k__law_made_schema : PySem.W.keepIn K (.ref a__law_made_schema) = true)
    (h__law_made_database : PySem.W.nsIn K mainGlobals "_law_made_database" = some (some (.ref a__law_made_database)))
    (l__law_made_database : K.lookup a__law_made_database = some ⟨oc__law_made_database, od__law_made_database, .func (PySem.W.fnOf "_law_made_database" "_law_made_database" (defArgs s__law_made_database) (defBody s__law_made_database) (defScope s__law_made_database) .none kV__law_made_database dc__law_made_database pm__law_made_database an__law_made_database cd__law_made_database ct__law_made_database), sl__law_made_database⟩)
    (c__law_made_database : PySem.W.codeIn K cd__law_made_database "_law_made_database" = true)
    (k__law_made_database : PySem.W.keepIn K (.ref a__law_made_database) = true)
    (h__law_schema_drawn : PySem.W.nsIn K mainGlobals "_law_schema_drawn" = some (some (.ref a__law_schema_drawn)))
    (l__law_schema_drawn : K.lookup a__law_schema_drawn = some ⟨oc__law_schema_drawn, od__law_schema_drawn, .func (PySem.W.fnOf "_law_schema_drawn" "_law_schema_drawn" (defArgs s__law_schema_drawn) (defBody s__law_schema_drawn) (defScope s__law_schema_drawn) .none kV__law_schema_drawn dc__law_schema_drawn pm__law_schema_drawn an__law_schema_drawn cd__law_schema_drawn ct__law_schema_drawn), sl__law_schema_drawn⟩)
    (c__law_schema_drawn : PySem.W.codeIn K cd__law_schema_drawn "_law_schema_drawn" = true)
    (k__law_schema_drawn : PySem.W.keepIn K (.ref a__law_schema_drawn) = true)
    (h__law_names : PySem.W.nsIn K mainGlobals "_law_names" = some (some (.ref a__law_names)))
    (l__law_names : K.lookup a__law_names = some ⟨oc__law_names, od__law_names, .func (PySem.W.fnOf "_law_names" "_law_names" (defArgs s__law_names) (defBody s__law_names) (defScope s__law_names) .none kV__law_names dc__law_names pm__law_names an__law_names cd__law_names ct__law_names), sl__law_names⟩)
    (c__law_names : PySem.W.codeIn K cd__law_names "_law_names" = true)
    (k__law_names : PySem.W.keepIn K (.ref a__law_names) = true)
    (h__law_row_drawn : PySem.W.nsIn K mainGlobals "_law_row_drawn" = some (some (.ref a__law_row_drawn)))
    (l__law_row_drawn : K.lookup a__law_row_drawn = some ⟨oc__law_row_drawn, od__law_row_drawn, .func (PySem.W.fnOf "_law_row_drawn" "_law_row_drawn" (defArgs s__law_row_drawn) (defBody s__law_row_drawn) (defScope s__law_row_drawn) .none kV__law_row_drawn dc__law_row_drawn pm__law_row_drawn an__law_row_drawn cd__law_row_drawn ct__law_row_drawn), sl__law_row_drawn⟩)
    (c__law_row_drawn : PySem.W.codeIn K cd__law_row_drawn "_law_row_drawn" = true)
    (k__law_row_drawn : PySem.W.keepIn K (.ref a__law_row_drawn) = true)
    (h__law_rows_drawn : PySem.W.nsIn K mainGlobals "_law_rows_drawn" = some (some (.ref a__law_rows_drawn)))
    (l__law_rows_drawn : K.lookup a__law_rows_drawn = some ⟨oc__law_rows_drawn, od__law_rows_drawn, .func (PySem.W.fnOf "_law_rows_drawn" "_law_rows_drawn" (defArgs s__law_rows_drawn) (defBody s__law_rows_drawn) (defScope s__law_rows_drawn) .none kV__law_rows_drawn dc__law_rows_drawn pm__law_rows_drawn an__law_rows_drawn cd__law_rows_drawn ct__law_rows_drawn), sl__law_rows_drawn⟩)
    (c__law_rows_drawn : PySem.W.codeIn K cd__law_rows_drawn "_law_rows_drawn" = true)
    (k__law_rows_drawn : PySem.W.keepIn K (.ref a__law_rows_drawn) = true)
    (h__law_lets : PySem.W.nsIn K mainGlobals "_law_lets" = some (some (.ref a__law_lets)))
    (l__law_lets : K.lookup a__law_lets = some ⟨oc__law_lets, od__law_lets, .func (PySem.W.fnOf "_law_lets" "_law_lets" (defArgs s__law_lets) (defBody s__law_lets) (defScope s__law_lets) .none kV__law_lets dc__law_lets pm__law_lets an__law_lets cd__law_lets ct__law_lets), sl__law_lets⟩)
    (c__law_lets : PySem.W.codeIn K cd__law_lets "_law_lets" = true)
    (k__law_lets : PySem.W.keepIn K (.ref a__law_lets) = true)
    (h_law : PySem.W.nsIn K mainGlobals "law" = some (some (.ref a_law)))
    (l_law : K.lookup a_law = some ⟨oc_law, od_law, .func (PySem.W.fnOf "law" "law" (defArgs s_law) (defBody s_law) (defScope s_law) .none kV_law dc_law pm_law an_law cd_law ct_law), sl_law⟩)
    (c_law : PySem.W.codeIn K cd_law "law" = true)
    (k_law : PySem.W.keepIn K (.ref a_law) = true)
    (b_isinstance : PySem.W.nsIn K mainGlobals "isinstance" = some none)
    (b_str : PySem.W.nsIn K mainGlobals "str" = some none)
    (b_len : PySem.W.nsIn K mainGlobals "len" = some none)
    (b_all : PySem.W.nsIn K mainGlobals "all" = some none)
    (b_any : PySem.W.nsIn K mainGlobals "any" = some none)
    (b_list : PySem.W.nsIn K mainGlobals "list" = some none)
    (b_tuple : PySem.W.nsIn K mainGlobals "tuple" = some none)
    (b_enumerate : PySem.W.nsIn K mainGlobals "enumerate" = some none)
    (b_zip : PySem.W.nsIn K mainGlobals "zip" = some none)
    (b_range : PySem.W.nsIn K mainGlobals "range" = some none)
    (b_int : PySem.W.nsIn K mainGlobals "int" = some none)
    (b_abs : PySem.W.nsIn K mainGlobals "abs" = some none)
    (b_repr : PySem.W.nsIn K mainGlobals "repr" = some none)
    (b_dict : PySem.W.nsIn K mainGlobals "dict" = some none)
    (y_MAX_WORD : PySem.W.nsIn K mainGlobals "MAX_WORD" = some (some (.int 8 t_MAX_WORD)))
    (y_MAX_TABLES : PySem.W.nsIn K mainGlobals "MAX_TABLES" = some (some (.int 4 t_MAX_TABLES)))
    (y_MAX_COLUMNS : PySem.W.nsIn K mainGlobals "MAX_COLUMNS" = some (some (.int 3 t_MAX_COLUMNS)))
    (y_SMALL : PySem.W.nsIn K mainGlobals "SMALL" = some (some (.str "abcdefghijklmnopqrstuvwxyz" t_SMALL)))
    (y_MAX_MARKS : PySem.W.nsIn K mainGlobals "MAX_MARKS" = some (some (.int 3 t_MAX_MARKS)))
    : ∃ fd : FuncData, (∀ (s : Shared) (v : Value), BindsTo s fd ⟨[v], []⟩ [("_law_script", v)]) ∧ ∀ base : Heap, K.In base → base.Ns mainGlobals mg → FnOk l.prog w K mg base (L2.CX l.prog w) 8 fa fd ["_law_script"] (spLaw K) := by
  have e := hfa.symm.trans (PySem.W.mg_of X G h_law)
  cases e
  have cl_Table : Cls K C_Table := ⟨pg_Table, hd_Table, po_Table, sa_Table⟩
  have cl_Schema : Cls K C_Schema := ⟨pg_Schema, hd_Schema, po_Schema, sa_Schema⟩
  have cl_Database : Cls K C_Database := ⟨pg_Database, hd_Database, po_Database, sa_Database⟩
  have F_is_word := fun_mk (st := s_is_word) l_is_word c_is_word k_is_word
  have B_is_word := F_is_word.binds (ps := p_is_word) fun _ _ _ _ _ _ us hl => match us, hl with | [_], _ => rfl
  have F_is_list := fun_mk (st := s_is_list) l_is_list c_is_list k_is_list
  have B_is_list := F_is_list.binds (ps := p_is_list) fun _ _ _ _ _ _ us hl => match us, hl with | [_], _ => rfl
  have F_are_different := fun_mk (st := s_are_different) l_are_different c_are_different k_are_different
  have B_are_different := F_are_different.binds (ps := p_are_different) fun _ _ _ _ _ _ us hl => match us, hl with | [_], _ => rfl
  have F_is_mark_column := fun_mk (st := s_is_mark_column) l_is_mark_column c_is_mark_column k_is_mark_column
  have B_is_mark_column := F_is_mark_column.binds (ps := p_is_mark_column) fun _ _ _ _ _ _ us hl => match us, hl with | [_], _ => rfl
  have F_Table___init__ := fun_mk (st := s_Table___init__) l_Table___init__ c_Table___init__ k_Table___init__
  have F_Table_name := fun_mk (st := s_Table_name) l_Table_name c_Table_name k_Table_name
  have B_Table_name := F_Table_name.binds (ps := p_Table_name) fun _ _ _ _ _ _ us hl => match us, hl with | [_], _ => rfl
  have F_Table_is_row := fun_mk (st := s_Table_is_row) l_Table_is_row c_Table_is_row k_Table_is_row
  have B_Table_is_row := F_Table_is_row.binds (ps := p_Table_is_row) fun _ _ _ _ _ _ us hl => match us, hl with | [_, _], _ => rfl
  have F_Schema___init__ := fun_mk (st := s_Schema___init__) l_Schema___init__ c_Schema___init__ k_Schema___init__
  have F_Schema_names := fun_mk (st := s_Schema_names) l_Schema_names c_Schema_names k_Schema_names
  have B_Schema_names := F_Schema_names.binds (ps := p_Schema_names) fun _ _ _ _ _ _ us hl => match us, hl with | [_], _ => rfl
  have F_Schema___contains__ := fun_mk (st := s_Schema___contains__) l_Schema___contains__ c_Schema___contains__ k_Schema___contains__
  have B_Schema___contains__ := F_Schema___contains__.binds (ps := p_Schema___contains__) fun _ _ _ _ _ _ us hl => match us, hl with | [_, _], _ => rfl
  have F_Schema___getitem__ := fun_mk (st := s_Schema___getitem__) l_Schema___getitem__ c_Schema___getitem__ k_Schema___getitem__
  have B_Schema___getitem__ := F_Schema___getitem__.binds (ps := p_Schema___getitem__) fun _ _ _ _ _ _ us hl => match us, hl with | [_, _], _ => rfl
  have F_fits := fun_mk (st := s_fits) l_fits c_fits k_fits
  have B_fits := F_fits.binds (ps := p_fits) fun _ _ _ _ _ _ us hl => match us, hl with | [_, _, _], _ => rfl
  have F_Database___init__ := fun_mk (st := s_Database___init__) l_Database___init__ c_Database___init__ k_Database___init__
  have B_Database___init__ := F_Database___init__.binds (ps := p_Database___init__) fun _ _ _ _ _ _ us hl => match us, hl with | [_, _], _ => rfl
  have F_Database_need_table := fun_mk (st := s_Database_need_table) l_Database_need_table c_Database_need_table k_Database_need_table
  have B_Database_need_table := F_Database_need_table.binds (ps := p_Database_need_table) fun _ _ _ _ _ _ us hl => match us, hl with | [_, _], _ => rfl
  have F_Database_need_rows := fun_mk (st := s_Database_need_rows) l_Database_need_rows c_Database_need_rows k_Database_need_rows
  have B_Database_need_rows := F_Database_need_rows.binds (ps := p_Database_need_rows) fun _ _ _ _ _ _ us hl => match us, hl with | [_, _, _], _ => rfl
  have F_Database___setitem__ := fun_mk (st := s_Database___setitem__) l_Database___setitem__ c_Database___setitem__ k_Database___setitem__
  have B_Database___setitem__ := F_Database___setitem__.binds (ps := p_Database___setitem__) fun _ _ _ _ _ _ us hl => match us, hl with | [_, _, _], _ => rfl
  have F_Database_count := fun_mk (st := s_Database_count) l_Database_count c_Database_count k_Database_count
  have B_Database_count := F_Database_count.binds (ps := p_Database_count) fun _ _ _ _ _ _ us hl => match us, hl with | [_, _, _], _ => rfl
  have F__law_pen := fun_mk (st := s__law_pen) l__law_pen c__law_pen k__law_pen
  have B__law_pen := F__law_pen.binds (ps := p__law_pen) fun _ _ _ _ _ _ us hl => match us, hl with | [_], _ => rfl
  have F__law_draw := fun_mk (st := s__law_draw) l__law_draw c__law_draw k__law_draw
  have B__law_draw := F__law_draw.binds (ps := p__law_draw) fun _ _ _ _ _ _ us hl => match us, hl with | [_, _], _ => rfl
  have F__law_pick := fun_mk (st := s__law_pick) l__law_pick c__law_pick k__law_pick
  have B__law_pick := F__law_pick.binds (ps := p__law_pick) fun _ _ _ _ _ _ us hl => match us, hl with | [_, _], _ => rfl
  have F__law_shuffled := fun_mk (st := s__law_shuffled) l__law_shuffled c__law_shuffled k__law_shuffled
  have B__law_shuffled := F__law_shuffled.binds (ps := p__law_shuffled) fun _ _ _ _ _ _ us hl => match us, hl with | [_, _], _ => rfl
  have F__law_words := fun_mk (st := s__law_words) l__law_words c__law_words k__law_words
  have B__law_words := F__law_words.binds (ps := p__law_words) fun _ _ _ _ _ _ us hl => match us, hl with | [_, _], _ => rfl
  have F__law_columns_of := fun_mk (st := s__law_columns_of) l__law_columns_of c__law_columns_of k__law_columns_of
  have B__law_columns_of := F__law_columns_of.binds (ps := p__law_columns_of) fun _ _ _ _ _ _ us hl => match us, hl with | [_, _], _ => rfl
  have F__law_spot := fun_mk (st := s__law_spot) l__law_spot c__law_spot k__law_spot
  have B__law_spot := F__law_spot.binds (ps := p__law_spot) fun _ _ _ _ _ _ us hl => match us, hl with | [_, _, _], _ => rfl
  have F__law_row_fits := fun_mk (st := s__law_row_fits) l__law_row_fits c__law_row_fits k__law_row_fits
  have B__law_row_fits := F__law_row_fits.binds (ps := p__law_row_fits) fun _ _ _ _ _ _ us hl => match us, hl with | [_, _, _, _], _ => rfl
  have F__law_made_table := fun_mk (st := s__law_made_table) l__law_made_table c__law_made_table k__law_made_table
  have B__law_made_table := F__law_made_table.binds (ps := p__law_made_table) fun _ _ _ _ _ _ us hl => match us, hl with | [_], _ => rfl
  have F__law_made_schema := fun_mk (st := s__law_made_schema) l__law_made_schema c__law_made_schema k__law_made_schema
  have B__law_made_schema := F__law_made_schema.binds (ps := p__law_made_schema) fun _ _ _ _ _ _ us hl => match us, hl with | [_], _ => rfl
  have F__law_made_database := fun_mk (st := s__law_made_database) l__law_made_database c__law_made_database k__law_made_database
  have B__law_made_database := F__law_made_database.binds (ps := p__law_made_database) fun _ _ _ _ _ _ us hl => match us, hl with | [_, _], _ => rfl
  have F__law_schema_drawn := fun_mk (st := s__law_schema_drawn) l__law_schema_drawn c__law_schema_drawn k__law_schema_drawn
  have B__law_schema_drawn := F__law_schema_drawn.binds (ps := p__law_schema_drawn) fun _ _ _ _ _ _ us hl => match us, hl with | [_, _, _], _ => rfl
  have F__law_names := fun_mk (st := s__law_names) l__law_names c__law_names k__law_names
  have B__law_names := F__law_names.binds (ps := p__law_names) fun _ _ _ _ _ _ us hl => match us, hl with | [_, _], _ => rfl
  have F__law_row_drawn := fun_mk (st := s__law_row_drawn) l__law_row_drawn c__law_row_drawn k__law_row_drawn
  have B__law_row_drawn := F__law_row_drawn.binds (ps := p__law_row_drawn) fun _ _ _ _ _ _ us hl => match us, hl with | [_, _, _], _ => rfl
  have F__law_rows_drawn := fun_mk (st := s__law_rows_drawn) l__law_rows_drawn c__law_rows_drawn k__law_rows_drawn
  have B__law_rows_drawn := F__law_rows_drawn.binds (ps := p__law_rows_drawn) fun _ _ _ _ _ _ us hl => match us, hl with | [_, _, _, _], _ => rfl
  have F__law_lets := fun_mk (st := s__law_lets) l__law_lets c__law_lets k__law_lets
  have B__law_lets := F__law_lets.binds (ps := p__law_lets) fun _ _ _ _ _ _ us hl => match us, hl with | [_, _, _], _ => rfl
  have F_law := fun_mk (st := s_law) l_law c_law k_law
  have B_law := F_law.binds (ps := p_law) fun _ _ _ _ _ _ us hl => match us, hl with | [_], _ => rfl
  have fk : Fk K ⟨C_InvalidTable, C_InvalidSchema, C_InvalidRow, 0, C_UnknownTable, C_UnknownColumn, C_Table, C_Schema, C_Filled, C_Database, 0⟩ := ⟨⟨cl_Table, n_Table_own_name⟩, ⟨cl_Table, n_Table_own_columns⟩, ⟨cl_Table, n_Table_own_marks⟩, ⟨cl_Table, n_Table_own_positions⟩, ⟨cl_Schema, n_Schema_own_tables⟩, ⟨cl_Database, n_Database_own_schema⟩, ⟨cl_Database, n_Database_own_rows⟩, ⟨cl_Table, ia_Table, io_n, io_t, im_Table⟩, ⟨cl_Schema, ia_Schema, io_n, io_t, im_Schema⟩, kk0, kk1⟩
  let A : All K mg ⟨C_InvalidTable, C_InvalidSchema, C_InvalidRow, 0, C_UnknownTable, C_UnknownColumn, C_Table, C_Schema, C_Filled, C_Database, 0⟩ := ⟨fk, _, _, F_is_word, ⟨PySem.W.mg_of X G h_is_word, k_is_word, B_is_word⟩, _, _, F_is_list, ⟨PySem.W.mg_of X G h_is_list, k_is_list, B_is_list⟩, _, _, F_are_different, ⟨PySem.W.mg_of X G h_are_different, k_are_different, B_are_different⟩, _, _, F_is_mark_column, ⟨PySem.W.mg_of X G h_is_mark_column, k_is_mark_column, B_is_mark_column⟩, _, _, F_Table___init__, ⟨h_Table___init__, if_Table___init__, k_Table___init__⟩, ⟨mk_Table, h_Table___init__, if_Table___init__, kc_Table⟩, _, _, F_Table_name, _, ⟨h_Table_name, pg_Table_name, pt_Table_name, _, pr_Table_name⟩, B_Table_name, _, _, F_Table_is_row, ⟨h_Table_is_row, if_Table_is_row, k_Table_is_row⟩, B_Table_is_row, _, _, F_Schema___init__, ⟨h_Schema___init__, if_Schema___init__, k_Schema___init__⟩, ⟨mk_Schema, h_Schema___init__, if_Schema___init__, kc_Schema⟩, _, _, F_Schema_names, _, ⟨h_Schema_names, pg_Schema_names, pt_Schema_names, _, pr_Schema_names⟩, B_Schema_names, _, _, F_Schema___contains__, ⟨h_Schema___contains__, if_Schema___contains__, k_Schema___contains__⟩, B_Schema___contains__, _, _, F_Schema___getitem__, ⟨h_Schema___getitem__, if_Schema___getitem__, k_Schema___getitem__⟩, B_Schema___getitem__, fi_Schema___getitem__, _, _, F_fits, ⟨PySem.W.mg_of X G h_fits, k_fits, B_fits⟩, _, _, F_Database___init__, ⟨h_Database___init__, if_Database___init__, k_Database___init__⟩, B_Database___init__, ⟨mk_Database, h_Database___init__, if_Database___init__, kc_Database⟩, _, _, F_Database_need_table, ⟨h_Database_need_table, if_Database_need_table, k_Database_need_table⟩, B_Database_need_table, _, _, F_Database_need_rows, ⟨h_Database_need_rows, if_Database_need_rows, k_Database_need_rows⟩, B_Database_need_rows, _, _, F_Database___setitem__, ⟨h_Database___setitem__, if_Database___setitem__, k_Database___setitem__⟩, B_Database___setitem__, nq_Database, _, _, F_Database_count, ⟨h_Database_count, if_Database_count, k_Database_count⟩, B_Database_count, _, _, F__law_pen, ⟨PySem.W.mg_of X G h__law_pen, k__law_pen, B__law_pen⟩, _, _, F__law_draw, ⟨PySem.W.mg_of X G h__law_draw, k__law_draw, B__law_draw⟩, _, _, F__law_pick, ⟨PySem.W.mg_of X G h__law_pick, k__law_pick, B__law_pick⟩, _, _, F__law_shuffled, ⟨PySem.W.mg_of X G h__law_shuffled, k__law_shuffled, B__law_shuffled⟩, _, _, F__law_words, ⟨PySem.W.mg_of X G h__law_words, k__law_words, B__law_words⟩, _, _, F__law_columns_of, ⟨PySem.W.mg_of X G h__law_columns_of, k__law_columns_of, B__law_columns_of⟩, _, _, F__law_spot, ⟨PySem.W.mg_of X G h__law_spot, k__law_spot, B__law_spot⟩, _, _, F__law_row_fits, ⟨PySem.W.mg_of X G h__law_row_fits, k__law_row_fits, B__law_row_fits⟩, _, _, F__law_made_table, ⟨PySem.W.mg_of X G h__law_made_table, k__law_made_table, B__law_made_table⟩, _, _, F__law_made_schema, ⟨PySem.W.mg_of X G h__law_made_schema, k__law_made_schema, B__law_made_schema⟩, _, _, F__law_made_database, ⟨PySem.W.mg_of X G h__law_made_database, k__law_made_database, B__law_made_database⟩, _, _, F__law_schema_drawn, ⟨PySem.W.mg_of X G h__law_schema_drawn, k__law_schema_drawn, B__law_schema_drawn⟩, _, _, F__law_names, ⟨PySem.W.mg_of X G h__law_names, k__law_names, B__law_names⟩, _, _, F__law_row_drawn, ⟨PySem.W.mg_of X G h__law_row_drawn, k__law_row_drawn, B__law_row_drawn⟩, _, _, F__law_rows_drawn, ⟨PySem.W.mg_of X G h__law_rows_drawn, k__law_rows_drawn, B__law_rows_drawn⟩, _, _, F__law_lets, ⟨PySem.W.mg_of X G h__law_lets, k__law_lets, B__law_lets⟩, _, _, F_law, ⟨PySem.W.mg_of X G h_law, k_law, B_law⟩, PySem.W.mg_none_of X G b_isinstance, PySem.W.mg_none_of X G b_str, PySem.W.mg_none_of X G b_len, PySem.W.mg_none_of X G b_all, PySem.W.mg_none_of X G b_any, PySem.W.mg_none_of X G b_list, PySem.W.mg_none_of X G b_tuple, PySem.W.mg_none_of X G b_enumerate, PySem.W.mg_none_of X G b_zip, PySem.W.mg_none_of X G b_range, PySem.W.mg_none_of X G b_int, PySem.W.mg_none_of X G b_abs, PySem.W.mg_none_of X G b_repr, PySem.W.mg_none_of X G b_dict, ⟨_, PySem.W.mg_of X G y_MAX_WORD⟩, ⟨_, PySem.W.mg_of X G y_MAX_TABLES⟩, ⟨_, PySem.W.mg_of X G y_MAX_COLUMNS⟩, ⟨_, PySem.W.mg_of X G y_SMALL⟩, ⟨_, PySem.W.mg_of X G y_MAX_MARKS⟩, PySem.W.mg_of X G aC_InvalidTable, PySem.W.mg_of X G aC_InvalidSchema, PySem.W.mg_of X G aC_InvalidRow, PySem.W.mg_of X G aC_UnknownTable, PySem.W.mg_of X G aC_UnknownColumn, PySem.W.mg_of X G aC_Table, cl_Table, PySem.W.mg_of X G aC_Schema, cl_Schema, PySem.W.mg_of X G aC_Filled, PySem.W.mg_of X G aC_Database, cl_Database⟩
  exact ⟨_, fun s v => .of_eq rfl, fun base _ _ => (ok_law A).imp fun _ _ _ _ => law_sp (plain_law fk)⟩
end Q
open PySem PySem.W PyProof.Rows
set_option maxRecDepth 100000 in
set_option maxHeartbeats 0 in
theorem PySem.Challenge.cw_onlylooks_k07_counts_of_words_holds : PySem.Challenge.rw_onlylooks_k07_counts_of_words.Holds := by
  w_on; o_law; k_head; (case hw => w_witness2)
  k_fill
  refine Q.walk (l := PySem.Challenge.rw_onlylooks_k07_counts_of_words) 8 ⟨rfl, by decide, by decide⟩ rfl rfl (fun w h Y => PySem.W.kIn_of Y) ?F
  case F =>
    intro w mg fa h KX G hmg
    refine' Q.all_mk KX G hmg ?aC_InvalidTable ?aC_InvalidSchema ?aC_InvalidRow ?aC_UnknownTable ?aC_UnknownColumn ?aC_Table ?aC_Schema ?aC_Filled ?aC_Database ?pg_Table ?hd_Table ?po_Table ?sa_Table ?pg_Schema ?hd_Schema ?po_Schema ?sa_Schema ?pg_Database ?hd_Database ?po_Database ?sa_Database ?n_Table_own_name ?n_Table_own_columns ?n_Table_own_marks ?n_Table_own_positions ?n_Schema_own_tables ?n_Database_own_schema ?n_Database_own_rows ?ia_Table ?im_Table ?ia_Schema ?im_Schema ?io_n ?io_t ?kk0 ?kk1 ?h_is_word ?l_is_word ?c_is_word ?k_is_word ?h_is_list ?l_is_list ?c_is_list ?k_is_list ?h_are_different ?l_are_different ?c_are_different ?k_are_different ?h_is_mark_column ?l_is_mark_column ?c_is_mark_column ?k_is_mark_column ?h_Table___init__ ?l_Table___init__ ?c_Table___init__ ?k_Table___init__ ?if_Table___init__ ?mk_Table ?kc_Table ?h_Table_name ?pg_Table_name ?pt_Table_name ?pr_Table_name ?l_Table_name ?c_Table_name ?k_Table_name ?h_Table_is_row ?l_Table_is_row ?c_Table_is_row ?k_Table_is_row ?if_Table_is_row ?h_Schema___init__ ?l_Schema___init__ ?c_Schema___init__ ?k_Schema___init__ ?if_Schema___init__ ?mk_Schema ?kc_Schema ?h_Schema_names ?pg_Schema_names ?pt_Schema_names ?pr_Schema_names ?l_Schema_names ?c_Schema_names ?k_Schema_names ?h_Schema___contains__ ?l_Schema___contains__ ?c_Schema___contains__ ?k_Schema___contains__ ?if_Schema___contains__ ?h_Schema___getitem__ ?l_Schema___getitem__ ?c_Schema___getitem__ ?k_Schema___getitem__ ?if_Schema___getitem__ ?fi_Schema___getitem__ ?h_fits ?l_fits ?c_fits ?k_fits ?h_Database___init__ ?l_Database___init__ ?c_Database___init__ ?k_Database___init__ ?if_Database___init__ ?mk_Database ?kc_Database ?h_Database_need_table ?l_Database_need_table ?c_Database_need_table ?k_Database_need_table ?if_Database_need_table ?h_Database_need_rows ?l_Database_need_rows ?c_Database_need_rows ?k_Database_need_rows ?if_Database_need_rows ?h_Database___setitem__ ?l_Database___setitem__ ?c_Database___setitem__ ?k_Database___setitem__ ?if_Database___setitem__ ?nq_Database ?h_Database_count ?l_Database_count ?c_Database_count ?k_Database_count ?if_Database_count ?h__law_pen ?l__law_pen ?c__law_pen ?k__law_pen ?h__law_draw ?l__law_draw ?c__law_draw ?k__law_draw ?h__law_pick ?l__law_pick ?c__law_pick ?k__law_pick ?h__law_shuffled ?l__law_shuffled ?c__law_shuffled ?k__law_shuffled ?h__law_words ?l__law_words ?c__law_words ?k__law_words ?h__law_columns_of ?l__law_columns_of ?c__law_columns_of ?k__law_columns_of ?h__law_spot ?l__law_spot ?c__law_spot ?k__law_spot ?h__law_row_fits ?l__law_row_fits ?c__law_row_fits ?k__law_row_fits ?h__law_made_table ?l__law_made_table ?c__law_made_table ?k__law_made_table ?h__law_made_schema ?l__law_made_schema ?c__law_made_schema ?k__law_made_schema ?h__law_made_database ?l__law_made_database ?c__law_made_database ?k__law_made_database ?h__law_schema_drawn ?l__law_schema_drawn ?c__law_schema_drawn ?k__law_schema_drawn ?h__law_names ?l__law_names ?c__law_names ?k__law_names ?h__law_row_drawn ?l__law_row_drawn ?c__law_row_drawn ?k__law_row_drawn ?h__law_rows_drawn ?l__law_rows_drawn ?c__law_rows_drawn ?k__law_rows_drawn ?h__law_lets ?l__law_lets ?c__law_lets ?k__law_lets ?h_law ?l_law ?c_law ?k_law ?b_isinstance ?b_str ?b_len ?b_all ?b_any ?b_list ?b_tuple ?b_enumerate ?b_zip ?b_range ?b_int ?b_abs ?b_repr ?b_dict ?y_MAX_WORD ?y_MAX_TABLES ?y_MAX_COLUMNS ?y_SMALL ?y_MAX_MARKS
    (case aC_InvalidTable => k_is)
    (case aC_InvalidSchema => k_is)
    (case aC_InvalidRow => k_is)
    (case aC_UnknownTable => k_is)
    (case aC_UnknownColumn => k_is)
    (case aC_Table => k_is)
    (case aC_Schema => k_is)
    (case aC_Filled => k_is)
    (case aC_Database => k_is)
    (case pg_Table => k_is)
    (case hd_Table => k_is)
    (case po_Table => k_is)
    (case sa_Table => k_is)
    (case pg_Schema => k_is)
    (case hd_Schema => k_is)
    (case po_Schema => k_is)
    (case sa_Schema => k_is)
    (case pg_Database => k_is)
    (case hd_Database => k_is)
    (case po_Database => k_is)
    (case sa_Database => k_is)
    (case n_Table_own_name => k_is)
    (case n_Table_own_columns => k_is)
    (case n_Table_own_marks => k_is)
    (case n_Table_own_positions => k_is)
    (case n_Schema_own_tables => k_is)
    (case n_Database_own_schema => k_is)
    (case n_Database_own_rows => k_is)
    (case ia_Table => k_is)
    (case im_Table => k_is)
    (case ia_Schema => k_is)
    (case im_Schema => k_is)
    (case io_n => k_is)
    (case io_t => k_is)
    (case kk0 => kit_is)
    (case kk1 => kit_is)
    (case h_is_word => k_is)
    (case l_is_word => k_is)
    (case c_is_word => k_is)
    (case k_is_word => k_is)
    (case h_is_list => k_is)
    (case l_is_list => k_is)
    (case c_is_list => k_is)
    (case k_is_list => k_is)
    (case h_are_different => k_is)
    (case l_are_different => k_is)
    (case c_are_different => k_is)
    (case k_are_different => k_is)
    (case h_is_mark_column => k_is)
    (case l_is_mark_column => k_is)
    (case c_is_mark_column => k_is)
    (case k_is_mark_column => k_is)
    (case h_Table___init__ => k_is)
    (case l_Table___init__ => k_is)
    (case c_Table___init__ => k_is)
    (case k_Table___init__ => k_is)
    (case if_Table___init__ => k_is)
    (case mk_Table => k_is)
    (case kc_Table => k_is)
    (case h_Table_name => k_is)
    (case pg_Table_name => k_is)
    (case pt_Table_name => k_is)
    (case pr_Table_name => k_is)
    (case l_Table_name => k_is)
    (case c_Table_name => k_is)
    (case k_Table_name => k_is)
    (case h_Table_is_row => k_is)
    (case l_Table_is_row => k_is)
    (case c_Table_is_row => k_is)
    (case k_Table_is_row => k_is)
    (case if_Table_is_row => k_is)
    (case h_Schema___init__ => k_is)
    (case l_Schema___init__ => k_is)
    (case c_Schema___init__ => k_is)
    (case k_Schema___init__ => k_is)
    (case if_Schema___init__ => k_is)
    (case mk_Schema => k_is)
    (case kc_Schema => k_is)
    (case h_Schema_names => k_is)
    (case pg_Schema_names => k_is)
    (case pt_Schema_names => k_is)
    (case pr_Schema_names => k_is)
    (case l_Schema_names => k_is)
    (case c_Schema_names => k_is)
    (case k_Schema_names => k_is)
    (case h_Schema___contains__ => k_is)
    (case l_Schema___contains__ => k_is)
    (case c_Schema___contains__ => k_is)
    (case k_Schema___contains__ => k_is)
    (case if_Schema___contains__ => k_is)
    (case h_Schema___getitem__ => k_is)
    (case l_Schema___getitem__ => k_is)
    (case c_Schema___getitem__ => k_is)
    (case k_Schema___getitem__ => k_is)
    (case if_Schema___getitem__ => k_is)
    (case fi_Schema___getitem__ => k_is)
    (case h_fits => k_is)
    (case l_fits => k_is)
    (case c_fits => k_is)
    (case k_fits => k_is)
    (case h_Database___init__ => k_is)
    (case l_Database___init__ => k_is)
    (case c_Database___init__ => k_is)
    (case k_Database___init__ => k_is)
    (case if_Database___init__ => k_is)
    (case mk_Database => k_is)
    (case kc_Database => k_is)
    (case h_Database_need_table => k_is)
    (case l_Database_need_table => k_is)
    (case c_Database_need_table => k_is)
    (case k_Database_need_table => k_is)
    (case if_Database_need_table => k_is)
    (case h_Database_need_rows => k_is)
    (case l_Database_need_rows => k_is)
    (case c_Database_need_rows => k_is)
    (case k_Database_need_rows => k_is)
    (case if_Database_need_rows => k_is)
    (case h_Database___setitem__ => k_is)
    (case l_Database___setitem__ => k_is)
    (case c_Database___setitem__ => k_is)
    (case k_Database___setitem__ => k_is)
    (case if_Database___setitem__ => k_is)
    (case nq_Database => k_is)
    (case h_Database_count => k_is)
    (case l_Database_count => k_is)
    (case c_Database_count => k_is)
    (case k_Database_count => k_is)
    (case if_Database_count => k_is)
    (case h__law_pen => k_is)
    (case l__law_pen => k_is)
    (case c__law_pen => k_is)
    (case k__law_pen => k_is)
    (case h__law_draw => k_is)
    (case l__law_draw => k_is)
    (case c__law_draw => k_is)
    (case k__law_draw => k_is)
    (case h__law_pick => k_is)
    (case l__law_pick => k_is)
    (case c__law_pick => k_is)
    (case k__law_pick => k_is)
    (case h__law_shuffled => k_is)
    (case l__law_shuffled => k_is)
    (case c__law_shuffled => k_is)
    (case k__law_shuffled => k_is)
    (case h__law_words => k_is)
    (case l__law_words => k_is)
    (case c__law_words => k_is)
    (case k__law_words => k_is)
    (case h__law_columns_of => k_is)
    (case l__law_columns_of => k_is)
    (case c__law_columns_of => k_is)
    (case k__law_columns_of => k_is)
    (case h__law_spot => k_is)
    (case l__law_spot => k_is)
    (case c__law_spot => k_is)
    (case k__law_spot => k_is)
    (case h__law_row_fits => k_is)
    (case l__law_row_fits => k_is)
    (case c__law_row_fits => k_is)
    (case k__law_row_fits => k_is)
    (case h__law_made_table => k_is)
    (case l__law_made_table => k_is)
    (case c__law_made_table => k_is)
    (case k__law_made_table => k_is)
    (case h__law_made_schema => k_is)
    (case l__law_made_schema => k_is)
    (case c__law_made_schema => k_is)
    (case k__law_made_schema => k_is)
    (case h__law_made_database => k_is)
    (case l__law_made_database => k_is)
    (case c__law_made_database => k_is)
    (case k__law_made_database => k_is)
    (case h__law_schema_drawn => k_is)
    (case l__law_schema_drawn => k_is)
    (case c__law_schema_drawn => k_is)
    (case k__law_schema_drawn => k_is)
    (case h__law_names => k_is)
    (case l__law_names => k_is)
    (case c__law_names => k_is)
    (case k__law_names => k_is)
    (case h__law_row_drawn => k_is)
    (case l__law_row_drawn => k_is)
    (case c__law_row_drawn => k_is)
    (case k__law_row_drawn => k_is)
    (case h__law_rows_drawn => k_is)
    (case l__law_rows_drawn => k_is)
    (case c__law_rows_drawn => k_is)
    (case k__law_rows_drawn => k_is)
    (case h__law_lets => k_is)
    (case l__law_lets => k_is)
    (case c__law_lets => k_is)
    (case k__law_lets => k_is)
    (case h_law => k_is)
    (case l_law => k_is)
    (case c_law => k_is)
    (case k_law => k_is)
    (case b_isinstance => k_is)
    (case b_str => k_is)
    (case b_len => k_is)
    (case b_all => k_is)
    (case b_any => k_is)
    (case b_list => k_is)
    (case b_tuple => k_is)
    (case b_enumerate => k_is)
    (case b_zip => k_is)
    (case b_range => k_is)
    (case b_int => k_is)
    (case b_abs => k_is)
    (case b_repr => k_is)
    (case b_dict => k_is)
    (case y_MAX_WORD => k_is)
    (case y_MAX_TABLES => k_is)
    (case y_MAX_COLUMNS => k_is)
    (case y_SMALL => k_is)
    (case y_MAX_MARKS => k_is)
