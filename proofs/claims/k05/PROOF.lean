import PyProof.Rows.All
import Wide.All
import OpenK.AllK
import Wide.FinOn
import KE.KStateDown
import KE.DataEq
import HandS.ForMost
import HandS.Defaults
import HandS.IsInst
import HandS.RevRange
import HandS.SortKw
import HandS.Head0
import HandS.Head1
import HandS.Head2
import HandS.HeadEnd
import HandS.HeadHook1
import HandS.HeadHook2
import KE.SortKeyHeap
import HandS.Walk
import HandS.Dict
import HandS.WordsDict
import PySem.Challenge.RW_onereading_k05_beginnings_of_texts
set_option Elab.async false
set_option linter.all false
set_option maxRecDepth 100000
set_option maxHeartbeats 4000000
/-! One: a small layer over the hand layer: texts as lists of codes, defs by name, heaps that only grow. -/
namespace One
open PySem PySem.Spec PyProof.Rows L2

/-! ### texts -/
abbrev Wd := List Nat
def S (a : Wd) : Str := ⟨a.toArray⟩
abbrev sv (a : Wd) : V := .str (S a)
theorem S_len (a : Wd) : (S a).length = a.length := by
  rw [TL.len_tl]; simp [S]
theorem S_size (a : Wd) : (S a).cps.size = a.length := by simp [S]
theorem S_cps (a : Wd) : (S a).cps.toList = a := by simp [S]
theorem S_inj {a b : Wd} : S a = S b ↔ a = b := by
  constructor
  · intro h
    have := congrArg (fun x : Str => x.cps.toList) h
    simpa [S] using this
  · intro h; rw [h]
theorem sv_inj {a b : Wd} : sv a = sv b ↔ a = b := by
  rw [V.str.injEq]; exact S_inj
theorem S_tl (x : Str) : S (TL.tl x) = x := TL.mk_tl x
theorem S_ex (x : Str) : ∃ a : Wd, x = S a := ⟨TL.tl x, (S_tl x).symm⟩
theorem S_app (a b : Wd) : S a ++ S b = S (a ++ b) := by
  apply TL.ext_tl
  rw [TL.tl_append]
  simp [S, TL.tl]
theorem dec_sv (a b : Wd) : decide (sv a = sv b) = decide (a = b) := by
  by_cases h : a = b
  · subst h; simp
  · rw [decide_eq_false h, decide_eq_false fun z => h (sv_inj.mp z)]
theorem starts_S (a b : Wd) : Txt.startswith (S a) (S b) = b.isPrefixOf a := by
  unfold Txt.startswith
  rw [StrLaws.subAt_eq, S_len, S_len, S_cps, S_cps, List.drop_zero, Nat.zero_add]
  rw [Bool.eq_iff_iff, Bool.and_eq_true, decide_eq_true_iff, beq_iff_eq, List.isPrefixOf_iff_prefix]
  constructor
  · intro h
    rw [← h.2]
    exact List.take_prefix _ _
  · intro h
    exact ⟨h.length_le, (List.prefix_iff_eq_take.mp h).symm⟩
theorem cutS_S (a : Wd) (lo hi : Option Int) : cutS (S a) lo hi = S ((a.drop (HT.sIx a.length 0 lo)).take (HT.sIx a.length a.length hi - HT.sIx a.length 0 lo)) := by
  unfold cutS
  rw [S_len, S_cps]
  rfl
theorem cut_from (a : Wd) (k : Nat) : cutS (S a) (some (k : Int)) none = S (a.drop k) := by
  rw [cutS_S, HT.sIx_none, HT.sIx_nat, S_inj]
  by_cases h : k ≤ a.length
  · rw [Nat.min_eq_left h, List.take_of_length_le]
    rw [List.length_drop]; exact Nat.le_refl _
  · rw [Nat.min_eq_right (by omega), List.drop_of_length_le (by omega), List.drop_of_length_le (by omega), List.take_nil]
theorem cut_to (a : Wd) (k : Nat) : cutS (S a) none (some (k : Int)) = S (a.take k) := by
  rw [cutS_S, HT.sIx_none, HT.sIx_nat, S_inj, List.drop_zero, Nat.sub_zero]
  by_cases h : k ≤ a.length
  · rw [Nat.min_eq_left h]
  · rw [Nat.min_eq_right (by omega), List.take_of_length_le (Nat.le_refl _), List.take_of_length_le (by omega)]
theorem cut_mid (a : Wd) (i k : Nat) : cutS (S a) (some (i : Int)) (some ((i : Int) + (k : Int))) = S ((a.drop i).take k) := by
  rw [cutS_S, show ((i : Int) + (k : Int)) = ((i + k : Nat) : Int) from rfl, HT.sIx_nat, HT.sIx_nat, S_inj]
  by_cases h : i + k ≤ a.length
  · rw [Nat.min_eq_left h, Nat.min_eq_left (by omega), Nat.add_sub_cancel_left]
  · by_cases h2 : i ≤ a.length
    · rw [Nat.min_eq_right (by omega), Nat.min_eq_left h2, List.take_of_length_le, List.take_of_length_le]
      · rw [List.length_drop]; omega
      · rw [List.length_drop]; exact Nat.le_refl _
    · rw [List.drop_of_length_le (l := a) (i := i) (by omega), Nat.min_eq_right (by omega), Nat.min_eq_right (by omega), List.drop_of_length_le (by omega), List.take_nil, List.take_nil]
theorem join_S (xs : List Wd) : Txt.join (S []) (xs.map S) = S xs.flatten := by
  rw [TL.join_eq]
  induction xs with
  | nil => rfl
  | cons x r ih =>
    cases r with
    | nil => 
      simp only [List.map_cons, List.map_nil, List.flatten_cons, List.flatten_nil, List.append_nil]
      rfl
    | cons y r =>
      have e : Str.join (S []) ((x :: y :: r).map S) = S x ++ S [] ++ Str.join (S []) ((y :: r).map S) := rfl
      rw [e, ih, S_app, S_app, List.append_nil]
      simp only [List.flatten_cons]

/-! ### what may be as long -/
theorem sz {n : Nat} (h : n ≤ 100000) : n ≤ sizeLine := Nat.le_trans h (by decide)
theorem szl {n : Nat} (h : n < 100000) : n < sizeLine := Nat.lt_of_lt_of_le h (by decide)
theorem szS {a : Wd} (h : a.length ≤ 100000) : (S a).length ≤ sizeLine := by rw [S_len]; exact sz h

/-! ### heaps that only grow -/
theorem new {H : Hp} {p : Addr} {o : HO} (h : H p = none) : Same H (upd H p o) := fun a u e => by
  rw [upd_ne (ne_of_none e h)]; exact e
/-- an object that H does not know may change -/
theorem mutd {H H' : Hp} {p : Addr} {o : HO} (e : Same H H') (h : H p = none) : Same H (upd H' p o) := fun a u ha => by
  rw [upd_ne (ne_of_none ha h)]; exact e a u ha
theorem sqT {K : PySem.W.Frag} {H H' : Hp} {a : Addr} {xs : List V} (e : Same H H') (h : SqT K H a xs) : SqT K H' a xs := by
  rcases h with h | h
  · rcases h with h | ⟨o, h⟩
    · exact .inl (.inl (e a _ h))
    · exact .inl (.inr ⟨o, e a _ h⟩)
  · exact .inr h
mutual
theorem dp_same {K : PySem.W.Frag} {H H' : Hp} (e : Same H H') : ∀ {d : PyData} {v : V}, Dp K H v d → Dp K H' v d
  | _, _, .non => .non
  | _, _, .bl b => .bl b
  | _, _, .int i => .int i
  | _, _, .str x => .str x
  | _, _, .lst h r => .lst (e.seq h) (dpAll_same e r)
  | _, _, .tup h r => .tup (sqT e h) (dpAll_same e r)
theorem dpAll_same {K : PySem.W.Frag} {H H' : Hp} (e : Same H H') : ∀ {ds : List PyData} {vs : List V}, DpAll K H vs ds → DpAll K H' vs ds
  | _, _, .nil => .nil
  | _, _, .cons h r => .cons (dp_same e h) (dpAll_same e r)
end
/-- lists of texts as data -/
theorem dpAll_strs {K : PySem.W.Frag} {H : Hp} : ∀ xs : List Wd, DpAll K H (xs.map sv) (xs.map fun a => PyData.str (S a))
  | [] => .nil
  | x :: r => .cons (.str _) (dpAll_strs r)

/-! ### the module's names -/
structure Bi (mg : Str → Option Value) : Prop where
  len : mg "len" = none
  isinstance : mg "isinstance" = none
  range : mg "range" = none
  sorted : mg "sorted" = none
  sum : mg "sum" = none
  max : mg "max" = none
  min : mg "min" = none
  reversed : mg "reversed" = none
  list : mg "list" = none
  dict : mg "dict" = none
  int : mg "int" = none
  str : mg "str" = none
  tuple : mg "tuple" = none
  bool : mg "bool" = none
  enumerate : mg "enumerate" = none
/-- a def of the text stands under its name -/
def Def (K : PySem.W.Frag) (mg : Str → Option Value) (x : Str) (st : Stmt) : Prop :=
  ∃ f fd, mg x = some (.ref f) ∧ FunD K x x (defArgs st) (defBody st) (defScope st) [] [] f fd
/-- a def that keeps a promise -/
structure Cal (P : Program) (w : World) (K : PySem.W.Frag) (mg : Str → Option Value) (base : Heap) (CX : CXT) (x : Str) (k : Nat) (ps : List Str) (sp : Sp) : Prop where
  ex : ∃ f fd, mg x = some (.ref f) ∧ PySem.W.keepIn K (.ref f) = true ∧ Binds K fd ps [] ∧ FnOk P w K mg base CX k f fd ps sp
section
variable {P : Program} {w : World} {K : PySem.W.Frag} {mg : Str → Option Value} {base : Heap} {CX : CXT} {x : Str} {st : Stmt} {N ps : List Str} {k : Nat} {sp : Sp}
theorem Def.cal (D : Def K mg x st) (S : FnScope N ps (defScope st))
    (hb : ∀ (kV doc pm : Value) (an : Option Addr) (cdv ct : Value) (us : List Value), us.length = ps.length → bindArgs (PySem.W.fnOf x x (defArgs st) (defBody st) (defScope st) .none kV doc pm an cdv ct) ⟨us, []⟩ = pure (ps.zip us))
    (len : ∀ vs H Q E, sp vs H Q E → vs.length = ps.length)
    (hbody : ∀ (f : Addr) (cdv : Value) (A : Around) (outer : List Env) (s : Shared) (H : Hp) (vs : List V) (Q : VK) (E : XK), Room k (A.deeper (envOfC x (defScope st) s.heap.objs.size f cdv)) → sp vs H Q E →
      ∃ t, PSs (cxOf CX P w K mg base N x (defScope st) f cdv A outer s H E) (defBody st) t ∧ t { nx := fun _ H' => Q .non H', rt := Q } (start N vs) H) : Cal P w K mg base CX x (k + 1) ps sp := by
  obtain ⟨f, fd, hm, F⟩ := D
  exact ⟨f, fd, hm, F.kp, F.bindsN hb, F.ok S len fun cdv A outer s H vs Q E hr h => hbody f cdv A outer s H vs Q E hr h⟩
end
section
variable {X : Cx} {CX : CXT} {j k : Nat} {ps : List Str} {sp : Sp} {E : XK} {x : Str} {p pos : Pos} {e : Expr} {es : List Expr} {t : TA}
theorem pe_calE (C : Cal X.prog X.w X.K X.mg X.base CX x k ps sp) (hr : Room j X.A) (hx : Passes CX X E) (ha : PA X (e :: es) t) (hk : k ≤ j := by decide) (hg : Gl X x := by rfl)
    (hdb : (x == ("__debug__" : Str)) = false := by decide) (he : starEach (e :: es) X.env = (false, eval e X.env) :: starEach es X.env := by rfl)
    (hpl : (backTo pos (starEach es X.env)).any (·.1) = false := by rfl) : PE X (.Call (.Name x p) (e :: es) [] pos) (tCall sp [] E t) := by
  obtain ⟨f, fd, hm, hkp, hb, F⟩ := C.ex
  exact pe_call F (hr.mono hk) hg hm hkp hb .nil hx ha hdb he hpl
theorem pe_cal (C : Cal X.prog X.w X.K X.mg X.base CX0 x k ps sp) (hr : Room j X.A) (ha : PA X (e :: es) t) (hk : k ≤ j := by decide) (hg : Gl X x := by rfl)
    (hdb : (x == ("__debug__" : Str)) = false := by decide) (he : starEach (e :: es) X.env = (false, eval e X.env) :: starEach es X.env := by rfl)
    (hpl : (backTo pos (starEach es X.env)).any (·.1) = false := by rfl) : PE X (.Call (.Name x p) (e :: es) [] pos) (tCall sp [] E0 t) :=
  pe_calE C hr pass0 ha hk hg hdb he hpl
end
end One


/-! ### rules over texts as lists of codes -/
namespace One
open PySem PySem.Spec PyProof.Rows L2
section
variable {X : Cx}
theorem OpR.imp {f : Value → Value → Sem Value} {r r' : R2} (h : OpR X f r) (i : ∀ x y H Q, r' x y H Q → r x y H Q) : OpR X f r' := fun pins s σ H x y v u Q I rx ry q => h pins s σ H x y v u Q I rx ry (i _ _ _ _ q)
theorem CallR.imp {f : Value} {r r' : List V → Hp → VK → Prop} (h : CallR X f r) (i : ∀ xs H Q, r' xs H Q → r xs H Q) : CallR X f r' := fun pins s σ H xs us Q I r q => h pins s σ H xs us Q I r (i _ _ _ q)
theorem MtR.imp {id : String} {r r' : V → List V → Hp → VK → Prop} (h : MtR X id r) (i : ∀ x xs H Q, r' x xs H Q → r x xs H Q) : MtR X id r' := fun pins s σ H x xs v us Q I rx rs q => h pins s σ H x xs v us Q I rx rs (i _ _ _ _ q)
theorem SlR.imp {r r' : V → Option Int → Option Int → Hp → VK → Prop} (h : SlR X r) (i : ∀ x lo hi H Q, r' x lo hi H Q → r x lo hi H Q) : SlR X r' := fun pins s σ H x v vl vu lo hi sl Q I rx hs pl pu q => h pins s σ H x v vl vu lo hi sl Q I rx hs pl pu (i _ _ _ _ _ q)
theorem IxR.imp {r r' : R2} (h : IxR X r) (i : ∀ x y H Q, r' x y H Q → r x y H Q) : IxR X r' := fun value slice pins s σ H x y v u Q I rx ry q e => h value slice pins s σ H x y v u Q I rx ry (i _ _ _ _ q) e
theorem pe_w {x : Str} {j : Nat} {pos : Pos} (a : Wd) (h : x = S a) : PE X (.Constant (.str x) j pos) (tC (sv a)) := h ▸ pe_str
/-- None or a text -/
def optv : Option Wd → V
  | none => .non
  | some a => sv a
theorem optv_inj {a b : Option Wd} : optv a = optv b ↔ a = b := by
  cases a <;> cases b <;> simp [optv, S_inj]
theorem scal_optv (a b : Option Wd) : scal (optv a) (optv b) = true := by cases a <;> cases b <;> rfl
theorem dec_optv (a b : Option Wd) : decide (optv a = optv b) = decide (a = b) := by
  by_cases h : a = b
  · subst h; simp
  · rw [decide_eq_false h, decide_eq_false fun z => h (optv_inj.mp z)]
theorem dec_int' (i j : Int) : decide (V.int i = V.int j) = decide (i = j) := by simp
def rAddW : R2 := fun x y H Q => ∃ a b : Wd, x = sv a ∧ y = sv b ∧ a.length + b.length ≤ 100000 ∧ Q (sv (a ++ b)) H
theorem op_addw : OpR X (binaryOp .Add) rAddW := OpR.imp op_add_str fun x y H Q ⟨a, b, hx, hy, hz, q⟩ => ⟨S a, S b, hx, hy, by rw [S_len, S_len]; exact sz hz, by rw [S_app]; exact q⟩
def rEqW : R2 := fun x y H Q => ∃ a b : Wd, x = sv a ∧ y = sv b ∧ Q (.bl (decide (a = b))) H
def rNeW : R2 := fun x y H Q => ∃ a b : Wd, x = sv a ∧ y = sv b ∧ Q (.bl (!decide (a = b))) H
theorem op_eqw : OpR X (compareOp .Eq) rEqW := OpR.imp op_eq fun x y H Q ⟨a, b, hx, hy, q⟩ => ⟨by rw [hx, hy]; rfl, by rw [hx, hy, dec_sv]; exact q⟩
theorem op_new : OpR X (compareOp .NotEq) rNeW := OpR.imp op_ne fun x y H Q ⟨a, b, hx, hy, q⟩ => ⟨by rw [hx, hy]; rfl, by rw [hx, hy, dec_sv]; exact q⟩
def rEqO : R2 := fun x y H Q => ∃ a b : Option Wd, x = optv a ∧ y = optv b ∧ Q (.bl (decide (a = b))) H
def rNeO : R2 := fun x y H Q => ∃ a b : Option Wd, x = optv a ∧ y = optv b ∧ Q (.bl (!decide (a = b))) H
theorem op_eqo : OpR X (compareOp .Eq) rEqO := OpR.imp op_eq fun x y H Q ⟨a, b, hx, hy, q⟩ => ⟨by rw [hx, hy]; exact scal_optv a b, by rw [hx, hy, dec_optv]; exact q⟩
theorem op_neo : OpR X (compareOp .NotEq) rNeO := OpR.imp op_ne fun x y H Q ⟨a, b, hx, hy, q⟩ => ⟨by rw [hx, hy]; exact scal_optv a b, by rw [hx, hy, dec_optv]; exact q⟩
def rEqN : R2 := fun x y H Q => ∃ i j : Int, x = .int i ∧ y = .int j ∧ Q (.bl (decide (i = j))) H
def rNeN : R2 := fun x y H Q => ∃ i j : Int, x = .int i ∧ y = .int j ∧ Q (.bl (!decide (i = j))) H
theorem op_eqn : OpR X (compareOp .Eq) rEqN := OpR.imp op_eq fun x y H Q ⟨a, b, hx, hy, q⟩ => ⟨by rw [hx, hy]; rfl, by rw [hx, hy, dec_int']; exact q⟩
theorem op_nen : OpR X (compareOp .NotEq) rNeN := OpR.imp op_ne fun x y H Q ⟨a, b, hx, hy, q⟩ => ⟨by rw [hx, hy]; rfl, by rw [hx, hy, dec_int']; exact q⟩
/-- len of a text, of a list -/
def rLenW : List V → Hp → VK → Prop := fun xs H Q => ∃ a : Wd, xs = [sv a] ∧ a.length ≤ 100000 ∧ Q (.int (a.length : Int)) H
theorem call_lenw : CallR X (.builtin "len") rLenW := CallR.imp call_len_str fun xs H Q ⟨a, e, hz, q⟩ => ⟨S a, e, szS hz, by rw [S_len]; exact q⟩
def rLenL (K : PySem.W.Frag) : List V → Hp → VK → Prop := fun xs H Q => ∃ p, xs = [.ref p] ∧ ∃ ys, SqL K H p ys ∧ Q (.int (ys.length : Int)) H
theorem call_lenl : CallR X (.builtin "len") (rLenL X.K) := CallR.imp call_len_seq fun xs H Q ⟨p, e, ys, h, q⟩ => ⟨p, ys, e, .inl h, q⟩
def rLenT (K : PySem.W.Frag) : List V → Hp → VK → Prop := fun xs H Q => ∃ p, xs = [.ref p] ∧ ∃ ys, SqT K H p ys ∧ Q (.int (ys.length : Int)) H
theorem call_lent : CallR X (.builtin "len") (rLenT X.K) := CallR.imp call_len_seq fun xs H Q ⟨p, e, ys, h, q⟩ => ⟨p, ys, e, .inr h, q⟩
/-- a text's slice -/
def cutW (a : Wd) (lo hi : Option Int) : Wd := (a.drop (HT.sIx a.length 0 lo)).take (HT.sIx a.length a.length hi - HT.sIx a.length 0 lo)
def rSlW : V → Option Int → Option Int → Hp → VK → Prop := fun x lo hi H Q => ∃ a : Wd, x = sv a ∧ a.length ≤ 100000 ∧ Q (sv (cutW a lo hi)) H
theorem sl_w : SlR X rSlW := SlR.imp sl_str fun x lo hi H Q ⟨a, e, hz, q⟩ => ⟨S a, e, szS hz, by rw [cutS_S]; exact q⟩
theorem cutW_from (a : Wd) (k : Nat) : cutW a (some (k : Int)) none = a.drop k := S_inj.mp ((cutS_S a _ _).symm.trans (cut_from a k))
theorem cutW_to (a : Wd) (k : Nat) : cutW a none (some (k : Int)) = a.take k := S_inj.mp ((cutS_S a _ _).symm.trans (cut_to a k))
theorem cutW_mid (a : Wd) (i k : Nat) : cutW a (some (i : Int)) (some ((i : Int) + (k : Int))) = (a.drop i).take k := S_inj.mp ((cutS_S a _ _).symm.trans (cut_mid a i k))
theorem cutW_len (a : Wd) (lo hi : Option Int) : (cutW a lo hi).length ≤ a.length := by
  unfold cutW
  rw [List.length_take, List.length_drop]; omega
/-- a text's sign, a list's item, a tuple's item -/
def rIxW : R2 := fun x y H Q => ∃ (a : Wd) (i : Int), x = sv a ∧ y = .int i ∧ a.length ≤ 100000 ∧ 0 ≤ i ∧ ∃ c, a[i.toNat]? = some c ∧ Q (sv [c]) H
theorem atI_toNat {α : Type} {xs : List α} {i : Int} {v : α} (h0 : 0 ≤ i) (h : xs[i.toNat]? = some v) : atI xs i = some v := by
  have := atI_nat (j := i.toNat) h
  rwa [Int.toNat_of_nonneg h0] at this
theorem ix_w : IxR X rIxW := IxR.imp ix_str fun x y H Q ⟨a, i, hx, hy, hz, h0, c, hc, q⟩ => ⟨S a, i, c, hx, hy, szS hz, by rw [S_cps]; exact atI_toNat h0 hc, q⟩
def rIxLn (K : PySem.W.Frag) : R2 := fun x y H Q => ∃ (p : Addr) (i : Int), x = .ref p ∧ y = .int i ∧ ∃ xs, SqL K H p xs ∧ 0 ≤ i ∧ ∃ v, xs[i.toNat]? = some v ∧ Q v H
theorem ix_l : IxR X (rIxLn X.K) := IxR.imp ix_list fun x y H Q ⟨p, i, hx, hy, xs, h, h0, v, hv, q⟩ => ⟨p, xs, i, v, hx, hy, h, atI_toNat h0 hv, q⟩
def rIxTn (K : PySem.W.Frag) : R2 := fun x y H Q => ∃ (p : Addr) (i : Int), x = .ref p ∧ y = .int i ∧ ∃ xs, SqT K H p xs ∧ 0 ≤ i ∧ ∃ v, xs[i.toNat]? = some v ∧ Q v H
theorem ix_t : IxR X (rIxTn X.K) := IxR.imp ix_tup fun x y H Q ⟨p, i, hx, hy, xs, h, h0, v, hv, q⟩ => ⟨p, xs, i, v, hx, hy, h, atI_toNat h0 hv, q⟩
/-- text.startswith(other), sep.join(list of texts) -/
def rStW : V → List V → Hp → VK → Prop := fun x xs H Q => ∃ a b : Wd, x = sv a ∧ xs = [sv b] ∧ Q (.bl (b.isPrefixOf a)) H
theorem mt_stw : MtR X "str.startswith" rStW := MtR.imp mt_startswith fun x xs H Q ⟨a, b, hx, hy, q⟩ => ⟨S a, S b, hx, hy, by rw [starts_S]; exact q⟩
theorem map_sv_len (ys : List Wd) : ((ys.map S).map (·.length)).sum = ys.flatten.length := by
  induction ys with
  | nil => rfl
  | cons x r ih => simp only [List.map_cons, List.sum_cons, List.flatten_cons, List.length_append, ih, S_len]
theorem map_sv (ys : List Wd) : (ys.map S).map V.str = ys.map sv := by rw [List.map_map]; rfl
def rJoW (K : PySem.W.Frag) : V → List V → Hp → VK → Prop := fun x xs H Q => ∃ p, x = sv [] ∧ xs = [.ref p] ∧ ∃ ys : List Wd, SqL K H p (ys.map sv) ∧ ys.flatten.length ≤ 100000 ∧ Q (sv ys.flatten) H
theorem mt_jow : MtR X "str.join" (rJoW X.K) := MtR.imp mt_join fun x xs H Q ⟨p, hx, hy, ys, h, hz, q⟩ => ⟨S [], p, ys.map S, hx, hy, .inl (by rw [map_sv]; exact h), by rw [map_sv_len, S_len]; show ys.flatten.length + _ * 0 ≤ _; omega, by rw [join_S]; exact q⟩
/-- a text in a list of texts -/
def rInW (K : PySem.W.Frag) (neg : Bool) : R2 := fun x y H Q => ∃ (a : Wd) (p : Addr), x = sv a ∧ y = .ref p ∧ ∃ xs : List Wd, SqL K H p (xs.map sv) ∧ Q (.bl (if neg then !decide (a ∈ xs) else decide (a ∈ xs))) H
theorem inV_sv (a : Wd) (xs : List Wd) : inV (sv a) (xs.map sv) = decide (a ∈ xs) := by
  unfold inV
  rw [List.any_map, Bool.eq_iff_iff, List.any_eq_true, decide_eq_true_iff]
  constructor
  · rintro ⟨x, hx, e⟩
    have e2 : (S x == S a) = true := e
    have e3 : S x = S a := by simpa using e2
    rw [← S_inj.mp e3]; exact hx
  · intro h
    exact ⟨a, h, by show (S a == S a) = true; simp⟩
theorem flat_sv (xs : List Wd) : (xs.map sv).all flatV = true := by
  rw [List.all_eq_true]
  intro v hv
  obtain ⟨a, _, rfl⟩ := List.mem_map.mp hv
  rfl
theorem op_inw : OpR X (compareOp .In) (rInW X.K false) := OpR.imp op_in_seq fun x y H Q ⟨a, p, hx, hy, xs, h, q⟩ => ⟨p, xs.map sv, hy, .inl h, by rw [hx]; rfl, flat_sv xs, by rw [hx, inV_sv]; exact q⟩
theorem op_niw : OpR X (compareOp .NotIn) (rInW X.K true) := OpR.imp op_notIn_seq fun x y H Q ⟨a, p, hx, hy, xs, h, q⟩ => ⟨p, xs.map sv, hy, .inl h, by rw [hx]; rfl, flat_sv xs, by rw [hx, inV_sv]; exact q⟩
/-- one sign in a text -/
def rInG (neg : Bool) : R2 := fun x y H Q => ∃ (c : Nat) (a : Wd), x = sv [c] ∧ y = sv a ∧ Q (.bl (if neg then !decide (c ∈ a) else decide (c ∈ a))) H
theorem op_ing : OpR X (compareOp .In) (rInG false) := OpR.imp op_in_sign fun x y H Q ⟨c, a, hx, hy, q⟩ => ⟨c, S a, hx, hy, by rw [S_cps]; exact q⟩
theorem op_nig : OpR X (compareOp .NotIn) (rInG true) := OpR.imp op_notIn_sign fun x y H Q ⟨c, a, hx, hy, q⟩ => ⟨c, S a, hx, hy, by rw [S_cps]; exact q⟩
end

/-! ### answers -/
/-- a value, the heap has grown at most; a new list; a new tuple -/
def Ret (H : Hp) (Q : VK) (v : V) : Prop := ∀ H', Same H H' → Q v H'
def RetL (H : Hp) (Q : VK) (xs : List V) : Prop := ∀ p H', Same H H' → H p = none → H' p = some (.lst xs) → Q (.ref p) H'
def RetT (H : Hp) (Q : VK) (xs : List V) : Prop := ∀ p H', Same H H' → H p = none → H' p = some (.tup xs) → Q (.ref p) H'
theorem Ret.mono {H H1 : Hp} {Q : VK} {v : V} (e : Same H H1) (r : Ret H Q v) : Ret H1 Q v := fun H' e' => r H' (e.trans e')
theorem RetL.mono {H H1 : Hp} {Q : VK} {xs : List V} (e : Same H H1) (r : RetL H Q xs) : RetL H1 Q xs := fun p H' e' hp h => r p H' (e.trans e') (e.free hp) h
theorem RetT.mono {H H1 : Hp} {Q : VK} {xs : List V} (e : Same H H1) (r : RetT H Q xs) : RetT H1 Q xs := fun p H' e' hp h => r p H' (e.trans e') (e.free hp) h
theorem RetT.at {H H1 : Hp} {Q : VK} {xs : List V} (r : RetT H Q xs) (e : Same H H1) {p : Addr} (hp : H1 p = none) : Q (.ref p) (upd H1 p (.tup xs)) := r p _ (e.trans (new hp)) (e.free hp) upd_same
theorem RetL.at {H H1 : Hp} {Q : VK} {xs : List V} (r : RetL H Q xs) (e : Same H H1) {p : Addr} (hp : H1 p = none) : Q (.ref p) (upd H1 p (.lst xs)) := r p _ (e.trans (new hp)) (e.free hp) upd_same
/-! ### ways -/
theorem itd {p A B : Prop} [Decidable p] (h1 : p → A) (h2 : ¬ p → B) : if decide p = true then A else B := by
  by_cases h : p
  · rw [if_pos (decide_eq_true h)]; exact h1 h
  · rw [if_neg (by simpa using h)]; exact h2 h
theorem itn {p A B : Prop} [Decidable p] (h1 : ¬ p → A) (h2 : p → B) : if (!decide p) = true then A else B := by
  by_cases h : p
  · rw [if_neg (by simpa using h)]; exact h2 h
  · rw [if_pos (by simpa using h)]; exact h1 h
theorem itb {b : Bool} {A B : Prop} (h1 : b = true → A) (h2 : b = false → B) : if b = true then A else B := by
  cases b
  · exact h2 rfl
  · exact h1 rfl
theorem itnb {b : Bool} {A B : Prop} (h1 : b = false → A) (h2 : b = true → B) : if (!b) = true then A else B := by
  cases b
  · exact h1 rfl
  · exact h2 rfl

/-! ### loops -/
section
variable {K : PySem.W.Frag} {a : Addr} {g : TG} {tb : TS} {D : Ends} {σ : L2.St} {H : Hp}
/-- over a list of texts that stays: Pv by what was taken -/
theorem for_ws {xs : List Wd} {j : Nat} (hS : SqL K H a (xs.map sv)) (Pv : List Wd → L2.St → Hp → Prop) (h0 : Pv [] σ H) (hm : ∀ pre σ' H', Pv pre σ' H' → Same H H')
    (hs : ∀ pre x post σ' H', xs = pre ++ x :: post → Pv pre σ' H' → tb { D with nx := Pv (pre ++ [x]), ct := Pv (pre ++ [x]), bk := D.nx } (σ'.set j (some (sv x))) H') (hd : ∀ σ' H', Pv xs σ' H' → D.nx σ' H') :
    ∃ W : Nat → Nat → L2.St → Hp → Prop, (∃ m, W 0 m σ H) ∧ ∀ i m σ H, W i m σ H →
      ((Itl K a).stop i H ∧ D.nx σ H) ∨ ((Itl K a).go i H ∧ ∃ N : L2.St → Hp → Prop, (∀ σ' H', N σ' H' → ∃ m', m' < m ∧ W (i + 1) m' σ' H') ∧ ∀ x H', (Itl K a).yld i H x H' → gName j x σ H' fun σ2 H2 => tb { D with nx := N, ct := N, bk := D.nx } σ2 H2) := by
  refine for_list (xs := xs.map sv) (fun i σ' H' => Pv (xs.take i) σ' H') (by rw [List.take_zero]; exact h0) (fun i σ' H' _ p => (hm _ _ _ p).seq hS) (fun i x σ' H' hx p => ?_) (fun σ' H' p => hd σ' H' (by rw [List.length_map, List.take_length] at p; exact p))
  rw [List.getElem?_map] at hx
  cases e : xs[i]? with
  | none => rw [e] at hx; cases hx
  | some y =>
    rw [e] at hx
    obtain rfl : sv y = x := Option.some.inj hx
    have hi : i < xs.length := (List.getElem?_eq_some_iff.mp e).1
    have ey : xs[i] = y := (List.getElem?_eq_some_iff.mp e).2
    have e1 : xs = xs.take i ++ y :: xs.drop (i + 1) := by
      rw [← ey, List.getElem_cons_drop, List.take_append_drop]
    have e2 : xs.take (i + 1) = xs.take i ++ [y] := by rw [List.take_add_one, e]; rfl
    show tb { D with nx := fun σ' H' => Pv (xs.take (i + 1)) σ' H', ct := fun σ' H' => Pv (xs.take (i + 1)) σ' H', bk := D.nx } (σ'.set j (some (sv y))) H'
    rw [e2]
    exact hs _ y _ σ' H' e1 p
end
/-! ### comprehensions whose element makes no object that is kept -/
/-- te gives v from any heap that has grown from H -/
def EvV (te : TE) (σ : L2.St) (H : Hp) (v : V) : Prop := ∀ H1, Same H H1 → ∀ Q : VK, (∀ H2, Same H1 H2 → Q v H2) → te σ H1 Q
def EvB (tt : TT) (σ : L2.St) (H : Hp) (b : Bool) : Prop := ∀ H1, Same H H1 → ∀ Q : Bool → Hp → Prop, (∀ H2, Same H1 H2 → Q b H2) → tt σ H1 Q
section
variable {K : PySem.W.Frag} {a : Addr} {tt : TT} {te : TE} {σ : L2.St} {H1 : Hp} {D : Addr} {Qd : Hp → Prop}
theorem wipe1 (σ : L2.St) (j : Nat) (v : Option V) : wipe ((wipe σ [j]).set j v) [j] = wipe σ [j] := by
  show ((σ.set j none).set j v).set j none = σ.set j none
  rw [List.set_set, List.set_set]
/-- over a list of values that stays -/
theorem lc_vals {xs : List V} {j : Nat} (c : V → Bool) (y : V → V) (hD : H1 D = none) (hS : SqL K H1 a xs) (hz : xs.length ≤ 100000)
    (ht : ∀ x ∈ xs, EvB tt ((wipe σ [j]).set j (some x)) H1 (c x)) (he : ∀ x ∈ xs, c x = true → EvV te ((wipe σ [j]).set j (some x)) H1 (y x))
    (hd : ∀ H', Same H1 H' → H' D = some (.lst ((xs.filter c).map y)) → Qd H') :
    ∃ W : Nat → Nat → Hp → Prop, (∃ m, W 0 m (upd H1 D (.lst []))) ∧ ∀ i m H, W i m H →
      ((Itl K a).stop i H ∧ Qd H) ∨ ((Itl K a).go i H ∧ ∃ Nx : Hp → Prop, (∀ H', Nx H' → ∃ m', m' < m ∧ W (i + 1) m' H') ∧ ∀ x H', (Itl K a).yld i H x H' → gName j x (wipe σ [j]) H' fun σ2 H2 => wipe σ2 [j] = wipe σ [j] ∧ tt σ2 H2 fun b H3 =>
        if b = true then te σ2 H3 fun y H4 => ∃ acc, H4 D = some (.lst acc) ∧ acc.length < sizeLine ∧ Nx (upd H4 D (.lst (acc ++ [y]))) else Nx H3) := by
  refine lc_list (K := K) (a := a) (xs := xs) (fun i H => Same H1 H ∧ H D = some (.lst (((xs.take i).filter c).map y))) ⟨new hD, upd_same⟩ (fun i H _ p => p.1.seq hS) (fun i x H hx p => ?_) (fun H p => hd H p.1 (by rw [List.take_length] at p; exact p.2))
  have hm : x ∈ xs := List.mem_of_getElem? hx
  have e2 : xs.take (i + 1) = xs.take i ++ [x] := by rw [List.take_add_one, hx]; rfl
  refine ⟨wipe1 σ j _, ht x hm H p.1 _ fun H2 s2 => ?_⟩
  refine itb (fun hc => ?_) fun hc => ?_
  · refine he x hm hc H2 (p.1.trans s2) _ fun H3 s3 => ⟨_, s3 _ _ (s2 _ _ p.2), ?_, mutd ((p.1.trans s2).trans s3) hD, ?_⟩
    · refine szl ?_
      rw [List.length_map]
      have h1 := List.length_filter_le c (xs.take i)
      have h2 : i < xs.length := (List.getElem?_eq_some_iff.mp hx).1
      rw [List.length_take] at h1
      omega
    · rw [upd_same, e2, List.filter_append, List.map_append, List.filter_cons, if_pos hc]; rfl
  · refine ⟨p.1.trans s2, ?_⟩
    rw [s2 _ _ p.2, e2, List.filter_append, List.filter_cons, if_neg (by rw [hc]; decide)]
    simp
/-- over a range, no test -/
theorem lc_rng {lo : Int} {n j : Nat} (y : Nat → V) (hD : H1 D = none) (hz : n ≤ 100000)
    (he : ∀ i, i < n → EvV te ((wipe σ [j]).set j (some (.int (lo + (i : Nat))))) H1 (y i))
    (hd : ∀ H', Same H1 H' → H' D = some (.lst ((List.range n).map y)) → Qd H') :
    ∃ W : Nat → Nat → Hp → Prop, (∃ m, W 0 m (upd H1 D (.lst []))) ∧ ∀ i m H, W i m H →
      ((Itr lo n).stop i H ∧ Qd H) ∨ ((Itr lo n).go i H ∧ ∃ Nx : Hp → Prop, (∀ H', Nx H' → ∃ m', m' < m ∧ W (i + 1) m' H') ∧ ∀ x H', (Itr lo n).yld i H x H' → gName j x (wipe σ [j]) H' fun σ2 H2 => wipe σ2 [j] = wipe σ [j] ∧ tYes σ2 H2 fun b H3 =>
        if b = true then te σ2 H3 fun y H4 => ∃ acc, H4 D = some (.lst acc) ∧ acc.length < sizeLine ∧ Nx (upd H4 D (.lst (acc ++ [y]))) else Nx H3) := by
  refine lc_range (lo := lo) (n := n) (fun i H => Same H1 H ∧ H D = some (.lst ((List.range i).map y))) ⟨new hD, upd_same⟩ (fun i H hi p => ?_) (fun H p => hd H p.1 p.2)
  refine ⟨wipe1 σ j _, ?_⟩
  refine he i hi H p.1 _ fun H3 s3 => ⟨_, s3 _ _ p.2, ?_, mutd (p.1.trans s3) hD, ?_⟩
  · refine szl ?_
    rw [List.length_map, List.length_range]; omega
  · rw [upd_same, List.range_succ, List.map_append]; rfl
end
end One


/-! ### isinstance of what a value is -/
namespace One
open PySem PySem.Spec PyProof.Rows L2
inductive Ty where | non | bl | int | str | lst | tup | dict
def Ty.nm : Ty → String
  | .non => "NoneType" | .bl => "bool" | .int => "int" | .str => "str" | .lst => "list" | .tup => "tuple" | .dict => "dict"
def Ty.is : Ty → Ty → Bool
  | .bl, .int => true
  | .non, .non => true | .bl, .bl => true | .int, .int => true | .str, .str => true | .lst, .lst => true | .tup, .tup => true | .dict, .dict => true
  | _, _ => false
theorem kit_all : ∀ t n : Ty, kitB t.nm n.nm = some (t.is n)
  | .non, .non => by decide +kernel | .non, .bl => by decide +kernel | .non, .int => by decide +kernel | .non, .str => by decide +kernel | .non, .lst => by decide +kernel | .non, .tup => by decide +kernel | .non, .dict => by decide +kernel
  | .bl, .non => by decide +kernel | .bl, .bl => by decide +kernel | .bl, .int => by decide +kernel | .bl, .str => by decide +kernel | .bl, .lst => by decide +kernel | .bl, .tup => by decide +kernel | .bl, .dict => by decide +kernel
  | .int, .non => by decide +kernel | .int, .bl => by decide +kernel | .int, .int => by decide +kernel | .int, .str => by decide +kernel | .int, .lst => by decide +kernel | .int, .tup => by decide +kernel | .int, .dict => by decide +kernel
  | .str, .non => by decide +kernel | .str, .bl => by decide +kernel | .str, .int => by decide +kernel | .str, .str => by decide +kernel | .str, .lst => by decide +kernel | .str, .tup => by decide +kernel | .str, .dict => by decide +kernel
  | .lst, .non => by decide +kernel | .lst, .bl => by decide +kernel | .lst, .int => by decide +kernel | .lst, .str => by decide +kernel | .lst, .lst => by decide +kernel | .lst, .tup => by decide +kernel | .lst, .dict => by decide +kernel
  | .tup, .non => by decide +kernel | .tup, .bl => by decide +kernel | .tup, .int => by decide +kernel | .tup, .str => by decide +kernel | .tup, .lst => by decide +kernel | .tup, .tup => by decide +kernel | .tup, .dict => by decide +kernel
  | .dict, .non => by decide +kernel | .dict, .bl => by decide +kernel | .dict, .int => by decide +kernel | .dict, .str => by decide +kernel | .dict, .lst => by decide +kernel | .dict, .tup => by decide +kernel | .dict, .dict => by decide +kernel
inductive TyW (H : Hp) : V → Ty → Prop where
  | non : TyW H .non .non
  | bl (b : Bool) : TyW H (.bl b) .bl
  | int (i : Int) : TyW H (.int i) .int
  | str (x : Str) : TyW H (.str x) .str
  | lst {p : Addr} {xs : List V} (h : H p = some (.lst xs)) : TyW H (.ref p) .lst
  | tup {p : Addr} {xs : List V} (h : H p = some (.tup xs)) : TyW H (.ref p) .tup
  | dict {p : Addr} {kvs : List (Key × V)} (h : H p = some (.dK kvs)) : TyW H (.ref p) .dict
theorem TyW.of {K : PySem.W.Frag} {H : Hp} {x : V} {t : Ty} (h : TyW H x t) : TyX K H x (.type t.nm) := by
  cases h with
  | non => exact .base .non
  | bl b => exact .base (.bl b)
  | int i => exact .base (.int i)
  | str x => exact .base (.str x)
  | lst h => exact .base (.lst h)
  | tup h => exact .base (.tup h)
  | dict h => exact .base (.dK h)
def rIs (n : Ty) : List V → Hp → VK → Prop := fun xs H Q => ∃ x, xs = [x, .ty n.nm] ∧ ∃ t, TyW H x t ∧ Q (.bl (t.is n)) H
theorem call_is {X : Cx} (n : Ty) : CallR X (.builtin "isinstance") (rIs n) := CallR.imp call_isi fun xs H Q ⟨x, e, t, h, q⟩ => ⟨x, .ty n.nm, .type t.nm, .type n.nm, t.is n, e, .ty _, h.of, kit_ty (kit_all t n), q⟩
theorem pe_ty {X : Cx} {x : Str} {pos : Pos} (n : Ty) (hg : Gl X x) (hm : X.mg x = none) (hv : bootBuiltins x = some (.type n.nm)) (hn : x ≠ "__name__" := by decide) (hd : (x == ("__debug__" : Str)) = false := by decide) : PE X (.Name x pos) (tC (.ty n.nm)) := pe_bltn hg hm hv rfl hn hd
theorem pick {α : Type} {xs : List α} {i : Int} (h0 : 0 ≤ i) (h1 : i < xs.length) : ∃ v, v ∈ xs ∧ xs[i.toNat]? = some v := by
  have h : i.toNat < xs.length := by omega
  exact ⟨xs[i.toNat], List.getElem_mem h, List.getElem?_eq_getElem h⟩
theorem flat1 {α β : Type} (f : α → β) (xs : List α) : (xs.map fun i => [f i]).flatten = xs.map f := by
  induction xs with
  | nil => rfl
  | cons x r ih => simp only [List.map_cons, List.flatten_cons, ih]; rfl
theorem cutW_toI (a : Wd) {x : Int} (h : 0 ≤ x) : cutW a none (some x) = a.take x.toNat := by
  have := cutW_to a x.toNat
  rwa [Int.toNat_of_nonneg h] at this
theorem cutW_fromI (a : Wd) {x : Int} (h : 0 ≤ x) : cutW a (some x) none = a.drop x.toNat := by
  have := cutW_from a x.toNat
  rwa [Int.toNat_of_nonneg h] at this
theorem cut_two (a : Wd) {x : Int} (h : 0 ≤ x) : (cutW a none (some x)).length + (cutW a (some (x + 1)) none).length ≤ a.length := by
  rw [cutW_toI a h, cutW_fromI a (by omega), List.length_take, List.length_drop]
  omega
def ABC : Wd := [97, 98, 99, 100, 101, 102, 103, 104, 105, 106, 107, 108, 109, 110, 111, 112, 113, 114, 115, 116, 117, 118, 119, 120, 121, 122]
theorem pe_globw {X : Cx} {x : Str} {z : Str} {pos : Pos} (a : Wd) (h : z = S a) (hm : ∃ t, X.mg x = some (.str z t)) (hg : Gl X x) (hd : (x == ("__debug__" : Str)) = false := by decide) : PE X (.Name x pos) (tC (sv a)) := by
  obtain ⟨t, hm⟩ := hm
  exact pe_glob hg hm ⟨t, by rw [h]⟩ hd
theorem pe_globi {X : Cx} {x : Str} {i : Int} {pos : Pos} (hm : ∃ t, X.mg x = some (.int i t)) (hg : Gl X x) (hd : (x == ("__debug__" : Str)) = false := by decide) : PE X (.Name x pos) (tC (.int i)) := by
  obtain ⟨t, hm⟩ := hm
  exact pe_glob hg hm ⟨t, rfl⟩ hd
end One
namespace One
open PySem PySem.Spec PyProof.Rows L2
section
variable {K : PySem.W.Frag} {a : Addr} {g : TG} {tb : TS} {D : Ends} {σ : L2.St} {H : Hp}
/-- over a list that stays, nothing that stood is changed: Pv by the turn and the slots -/
theorem for_g {xs : List V} (hS : SqL K H a xs) (Pv : Nat → L2.St → Prop) (h0 : Pv 0 σ)
    (hs : ∀ i x σ' H', xs[i]? = some x → Pv i σ' → Same H H' → g x σ' H' fun σ2 H2 => tb { D with nx := fun σ'' H'' => Pv (i + 1) σ'' ∧ Same H H'', ct := fun σ'' H'' => Pv (i + 1) σ'' ∧ Same H H'', bk := D.nx } σ2 H2)
    (hd : ∀ σ' H', Pv xs.length σ' → Same H H' → D.nx σ' H') :
    ∃ W : Nat → Nat → L2.St → Hp → Prop, (∃ m, W 0 m σ H) ∧ ∀ i m σ H, W i m σ H →
      ((Itl K a).stop i H ∧ D.nx σ H) ∨ ((Itl K a).go i H ∧ ∃ N : L2.St → Hp → Prop, (∀ σ' H', N σ' H' → ∃ m', m' < m ∧ W (i + 1) m' σ' H') ∧ ∀ x H', (Itl K a).yld i H x H' → g x σ H' fun σ2 H2 => tb { D with nx := N, ct := N, bk := D.nx } σ2 H2) :=
  for_list (xs := xs) (fun i σ' H' => Pv i σ' ∧ Same H H') ⟨h0, Same.refl _⟩ (fun _ _ _ _ p => p.2.seq hS) (fun i x σ' H' hx p => hs i x σ' H' hx p.1 p.2) (fun σ' H' p => hd σ' H' p.1 p.2)
end
end One
namespace One
open PySem PySem.Spec PyProof.Rows L2
theorem new_at {H : Hp} {p b : Addr} {o u : HO} (h : H p = none) (e : H b = some u) : upd H p o b = some u := new h b u e
theorem upd_at {H : Hp} {p b : Addr} {o u : HO} (h : b ≠ p) (e : H b = some u) : upd H p o b = some u := by rw [upd_ne h]; exact e
theorem upd_snoc {H : Hp} {p : Addr} {xs : List Wd} {a : Wd} : upd H p (.lst (xs.map sv ++ [sv a])) p = some (.lst ((xs ++ [a]).map sv)) := by rw [upd_same, List.map_append]; rfl
theorem upd_nil {H : Hp} {p : Addr} : upd H p (.lst []) p = some (.lst (List.map sv [])) := upd_same
/-- something lives at l, nothing at p -/
theorem ne_free {H : Hp} {p l : Addr} {u : HO} (h : H p = none) (e : H l = some u) : p ≠ l := fun z => by rw [← z, h] at e; cases e
theorem same_at {H H' : Hp} {b : Addr} {u : HO} (s : Same H H') (e : H b = some u) : H' b = some u := s b u e
end One
namespace One
open PySem PySem.Spec PyProof.Rows L2
def rCatL : R2 := fun x y H Q => ∃ (l b : Addr), x = .ref l ∧ y = .ref b ∧ ∃ xs, H l = some (.lst xs) ∧ ∃ zs, H b = some (.lst zs) ∧ xs.length + zs.length ≤ 100000 ∧ ∀ p, H p = none → Q (.ref p) (upd H p (.lst (xs ++ zs)))
theorem op_catl {X : Cx} : OpR X (binaryOp .Add) rCatL := OpR.imp op_cat fun x y H Q ⟨l, b, hx, hy, xs, h1, zs, h2, hz, q⟩ => ⟨l, b, xs, zs, hx, hy, h1, h2, sz hz, q⟩
end One
namespace One
open PySem PySem.Spec PyProof.Rows L2
/-! ### == of data -/
def okD (d : PyData) : Bool := d.plain && decide (d.depth ≤ 8)
def rEqP (K : PySem.W.Frag) : R2 := fun x y H Q => ∃ d, Dp K H x d ∧ okD d = true ∧ ∃ e, Dp K H y e ∧ okD e = true ∧ Q (.bl (PyData.eqv d e)) H
def rNeP (K : PySem.W.Frag) : R2 := fun x y H Q => ∃ d, Dp K H x d ∧ okD d = true ∧ ∃ e, Dp K H y e ∧ okD e = true ∧ Q (.bl (!PyData.eqv d e)) H
theorem eqv_self {d : PyData} (h : okD d = true) : PyData.eqv d d = true := SeqAt.eqv_refl_plain d (Bool.and_eq_true_iff.mp h).1
example (x : Str) (b : Bool) : okD (.tuple [.str x, .bool b]) = true := rfl
example (x : Str) (b : Bool) : okD (.tuple [.str x, .bool b, .list []]) = true := by rfl
example (x y : Str) (b : Bool) : PyData.eqv (.tuple [.str x, .bool b]) (.tuple [.str y, .bool b]) = ((x == y) && ((b == b) && true)) := by rfl
theorem op_eqp {X : Cx} (hu : X.A.units + 64 < cLine) : OpR X (compareOp .Eq) (rEqP X.K) := by
  intro pins s σ H x y v u Q I rx ry h
  obtain ⟨d, hd, sd, e, he, se, q⟩ := h
  obtain ⟨as, r1⟩ := Dp.reads I d x v hd rx
  obtain ⟨bs, r2⟩ := Dp.reads I e y u he ry
  have h1 := Bool.and_eq_true_iff.mp sd
  have h2 := Bool.and_eq_true_iff.mp se
  have d1 := of_decide_eq_true h1.2
  exact SeqAt.eq_plain r1 r2 h1.1 h2.1 (by have := Nat.min_le_left d.depth e.depth; omega) ⟨.bl _, H, I, rfl, q⟩
theorem op_nep {X : Cx} (hu : X.A.units + 64 < cLine) : OpR X (compareOp .NotEq) (rNeP X.K) := by
  intro pins s σ H x y v u Q I rx ry h
  obtain ⟨d, hd, sd, e, he, se, q⟩ := h
  obtain ⟨as, r1⟩ := Dp.reads I d x v hd rx
  obtain ⟨bs, r2⟩ := Dp.reads I e y u he ry
  have h1 := Bool.and_eq_true_iff.mp sd
  have h2 := Bool.and_eq_true_iff.mp se
  have d1 := of_decide_eq_true h1.2
  exact SeqAt.ne_plain r1 r2 h1.1 h2.1 (by have := Nat.min_le_left d.depth e.depth; omega) ⟨.bl _, H, I, rfl, q⟩
abbrev sd (a : Wd) : PyData := .str (S a)
theorem eqvAll_strs : ∀ xs ys : List Wd, PyData.eqvAll (xs.map sd) (ys.map sd) = decide (xs = ys)
  | [], [] => rfl
  | [], _ :: _ => by simp [PyData.eqvAll]
  | _ :: _, [] => by simp [PyData.eqvAll]
  | x :: xs, y :: ys => by
    have e : (S x == S y) = decide (x = y) := by
      by_cases h : x = y
      · subst h; simp
      · rw [decide_eq_false h]; simpa using fun z => h (S_inj.mp z)
    simp only [List.map_cons, PyData.eqvAll, PyData.eqv, e, eqvAll_strs xs ys, List.cons.injEq, Bool.decide_and]
theorem eqv_strs (xs ys : List Wd) : PyData.eqv (.list (xs.map sd)) (.list (ys.map sd)) = decide (xs = ys) := by
  rw [← eqvAll_strs xs ys]; simp only [PyData.eqv]
theorem plain_strs : ∀ xs : List Wd, PyData.plainAll (xs.map sd) = true
  | [] => rfl
  | x :: r => by simp only [List.map_cons, PyData.plainAll, PyData.plain, plain_strs r, Bool.and_self]
theorem depth_strs : ∀ xs : List Wd, PyData.depthAll (xs.map sd) = 0
  | [] => rfl
  | x :: r => by simp only [List.map_cons, PyData.depthAll, PyData.depth, depth_strs r, Nat.max_self]
theorem ok_strs (xs : List Wd) : okD (.list (xs.map sd)) = true := by
  unfold okD
  simp only [PyData.plain, PyData.depth, plain_strs, depth_strs]
  decide
end One

namespace One
open PySem PySem.Spec PyProof.Rows L2
/-! ### lists: slices, the last item, append -/
def rSlLn (K : PySem.W.Frag) : V → Option Int → Option Int → Hp → VK → Prop := fun x lo hi H Q => ∃ a, x = .ref a ∧ ∃ xs, SqL K H a xs ∧ ∀ p, H p = none → Q (.ref p) (upd H p (.lst (cutV xs lo hi)))
theorem sl_l {X : Cx} : SlR X (rSlLn X.K) := SlR.imp sl_list fun x lo hi H Q ⟨a, e, xs, h, q⟩ => ⟨a, xs, e, h, q⟩
def rSlTn (K : PySem.W.Frag) : V → Option Int → Option Int → Hp → VK → Prop := fun x lo hi H Q => ∃ a, x = .ref a ∧ ∃ xs, SqT K H a xs ∧
  ¬ (HT.sIx xs.length 0 lo = 0 ∧ HT.sIx xs.length xs.length hi = xs.length) ∧ ∀ p, H p = none → Q (.ref p) (upd H p (.tup (cutV xs lo hi)))
theorem sl_t {X : Cx} : SlR X (rSlTn X.K) := SlR.imp sl_tup fun x lo hi H Q ⟨a, e, xs, h, n, q⟩ => ⟨a, xs, e, h, n, q⟩
theorem cutV_toI {xs : List V} {x : Int} (h : 0 ≤ x) : cutV xs none (some x) = xs.take x.toNat := by
  unfold cutV
  rw [HT.sIx_none, ← Int.toNat_of_nonneg h, HT.sIx_nat, List.drop_zero, Nat.sub_zero, Int.toNat_natCast]
  by_cases h2 : x.toNat ≤ xs.length
  · rw [Nat.min_eq_left h2]
  · rw [Nat.min_eq_right (by omega), List.take_of_length_le (Nat.le_refl _), List.take_of_length_le (by omega)]
theorem cutV_fromI {xs : List V} {x : Int} (h : 0 ≤ x) : cutV xs (some x) none = xs.drop x.toNat := by
  unfold cutV
  rw [HT.sIx_none, ← Int.toNat_of_nonneg h, HT.sIx_nat, Int.toNat_natCast]
  by_cases h2 : x.toNat ≤ xs.length
  · rw [Nat.min_eq_left h2, List.take_of_length_le]
    rw [List.length_drop]; exact Nat.le_refl _
  · rw [Nat.min_eq_right (by omega), List.drop_of_length_le (Nat.le_refl _), List.drop_of_length_le (by omega), List.take_nil]
def rIxLm (K : PySem.W.Frag) : R2 := fun x y H Q => ∃ p, x = .ref p ∧ y = .int (-1) ∧ ∃ xs, SqL K H p xs ∧ ∃ v, xs.getLast? = some v ∧ Q v H
theorem atI_m1 {xs : List V} {v : V} (h : xs.getLast? = some v) : atI xs (-1) = some v := by
  cases xs with
  | nil => simp at h
  | cons x r =>
    have e := List.dropLast_concat_getLast (List.cons_ne_nil x r)
    rw [← e]
    have : v = (x :: r).getLast (List.cons_ne_nil x r) := by
      rw [List.getLast?_eq_some_getLast (List.cons_ne_nil x r)] at h
      exact (Option.some.inj h).symm
    rw [this]
    exact atI_last _ _
theorem ix_lm {X : Cx} : IxR X (rIxLm X.K) := IxR.imp ix_list fun x y H Q ⟨p, hx, hy, xs, h, v, hv, q⟩ => ⟨p, xs, -1, v, hx, hy, h, atI_m1 hv, q⟩
def rApp : V → List V → Hp → VK → Prop := fun x vs H Q => ∃ l y, x = .ref l ∧ vs = [y] ∧ ∃ xs, H l = some (.lst xs) ∧ xs.length < 100000 ∧ Q .non (upd H l (.lst (xs ++ [y])))
theorem MtM.imp {X : Cx} {id : String} {r r' : V → List V → Hp → VK → Prop} (h : MtM X id r) (i : ∀ x xs H Q, r' x xs H Q → r x xs H Q) : MtM X id r' := fun pins s σ H x xs v us Q I rx rs q => h pins s σ H x xs v us Q I rx rs (i _ _ _ _ q)
theorem mt_app {X : Cx} : MtM X "list.append" rApp := MtM.imp mt_append fun x vs H Q ⟨l, y, hx, hv, xs, h, hz, q⟩ => ⟨l, xs, y, hx, hv, h, szl hz, q⟩
theorem tyL {K : PySem.W.Frag} {H : Hp} {p : Addr} {xs : List V} (h : SqL K H p xs) : tyV K "list" (.ref p) H := .inl ⟨rfl, _, h⟩
def rListOf (K : PySem.W.Frag) : List V → Hp → VK → Prop := fun xs H Q => ∃ p, xs = [.ref p] ∧ ∃ ys, SqL K H p ys ∧ ∀ l, H l = none → Q (.ref l) (upd H l (.lst ys))
theorem call_listl {X : Cx} : CallR X (.type "list") (rListOf X.K) := CallR.imp call_list_of fun xs H Q ⟨p, e, ys, h, q⟩ => ⟨p, ys, e, .inl h, q⟩
/-- [x, ..] * n -/
def rRepN : R2 := fun x y H Q => ∃ (l : Addr) (k : Int), x = .ref l ∧ y = .int k ∧ ∃ v, H l = some (.lst [v]) ∧ 0 ≤ k ∧ k ≤ 100000 ∧ ∀ p, H p = none → Q (.ref p) (upd H p (.lst (List.replicate k.toNat v)))
theorem op_repn {X : Cx} : OpR X (binaryOp .Mult) rRepN := OpR.imp op_rep fun x y H Q ⟨l, k, hx, hy, v, h, h0, h1, q⟩ => ⟨l, k, [v], hx, hy, h, by omega, by omega, sz (by show 1 * _ ≤ _; omega), by
  have e : (List.replicate k.toNat [v]).flatten = List.replicate k.toNat v := by
    generalize k.toNat = n
    induction n with
    | zero => rfl
    | succ n ih => rw [List.replicate_succ, List.flatten_cons, ih, List.replicate_succ]; rfl
  rw [e]; exact q⟩
section
variable {K : PySem.W.Frag} {a : Addr} {g : TG} {tb : TS} {D : Ends} {σ : L2.St} {H : Hp}
/-- over a list of texts that stays: Pv by what was taken -/
theorem for_wl {xs : List Wd} {j : Nat} (Pv : List Wd → L2.St → Hp → Prop) (h0 : Pv [] σ H) (hl : ∀ pre σ' H', Pv pre σ' H' → SqL K H' a (xs.map sv))
    (hs : ∀ pre x post σ' H', xs = pre ++ x :: post → Pv pre σ' H' → tb { D with nx := Pv (pre ++ [x]), ct := Pv (pre ++ [x]), bk := D.nx } (σ'.set j (some (sv x))) H') (hd : ∀ σ' H', Pv xs σ' H' → D.nx σ' H') :
    ∃ W : Nat → Nat → L2.St → Hp → Prop, (∃ m, W 0 m σ H) ∧ ∀ i m σ H, W i m σ H →
      ((Itl K a).stop i H ∧ D.nx σ H) ∨ ((Itl K a).go i H ∧ ∃ N : L2.St → Hp → Prop, (∀ σ' H', N σ' H' → ∃ m', m' < m ∧ W (i + 1) m' σ' H') ∧ ∀ x H', (Itl K a).yld i H x H' → gName j x σ H' fun σ2 H2 => tb { D with nx := N, ct := N, bk := D.nx } σ2 H2) := by
  refine for_list (xs := xs.map sv) (fun i σ' H' => Pv (xs.take i) σ' H') (by rw [List.take_zero]; exact h0) (fun i σ' H' _ p => hl _ _ _ p) (fun i x σ' H' hx p => ?_) (fun σ' H' p => hd σ' H' (by rw [List.length_map, List.take_length] at p; exact p))
  rw [List.getElem?_map] at hx
  cases e : xs[i]? with
  | none => rw [e] at hx; cases hx
  | some y =>
    rw [e] at hx
    obtain rfl : sv y = x := Option.some.inj hx
    have hi : i < xs.length := (List.getElem?_eq_some_iff.mp e).1
    have ey : xs[i] = y := (List.getElem?_eq_some_iff.mp e).2
    have e1 : xs = xs.take i ++ y :: xs.drop (i + 1) := by
      rw [← ey, List.getElem_cons_drop, List.take_append_drop]
    have e2 : xs.take (i + 1) = xs.take i ++ [y] := by rw [List.take_add_one, e]; rfl
    show tb { D with nx := fun σ' H' => Pv (xs.take (i + 1)) σ' H', ct := fun σ' H' => Pv (xs.take (i + 1)) σ' H', bk := D.nx } (σ'.set j (some (sv y))) H'
    rw [e2]
    exact hs _ y _ σ' H' e1 p
end
/-! ### words -/
def Word (a : Wd) : Prop := 1 ≤ a.length ∧ a.length ≤ 10 ∧ ∀ c ∈ a, c ∈ ABC
def Abc (a : Wd) : Prop := ∀ c ∈ a, c ∈ ABC
structure Code (xs : List Wd) : Prop where
  nd : xs.Nodup
  le : xs.length ≤ 12
  wd : ∀ a ∈ xs, Word a
theorem Code.len {xs : List Wd} (c : Code xs) {a : Wd} (h : a ∈ xs) : a.length ≤ 10 := (c.wd a h).2.1
/-- an item by a remainder -/
theorem pickm {α : Type} (xs : List α) (i : Int) (h : xs ≠ []) : ∃ v, v ∈ xs ∧ xs[(i % (xs.length : Int)).toNat]? = some v := by
  have hp : (0 : Int) < (xs.length : Int) := by
    have := List.length_pos_iff.mpr h
    omega
  exact pick (Int.emod_nonneg _ (Int.ne_of_gt hp)) (Int.emod_lt_of_pos _ hp)
theorem get_map {α β : Type} {f : α → β} {xs : List α} {i : Nat} {v : α} (h : xs[i]? = some v) : (xs.map f)[i]? = some (f v) := by
  rw [List.getElem?_map, h]; rfl
end One
namespace One
open PySem PySem.Spec PyProof.Rows L2
/-- an item at a place that lies in the list: whichever -/
theorem ex_pick {α : Type} {xs : List α} {i : Int} {Q : α → Prop} (h0 : 0 ≤ i) (h1 : i < xs.length) (q : ∀ v, v ∈ xs → Q v) : ∃ v, xs[i.toNat]? = some v ∧ Q v := by
  obtain ⟨v, hv, e⟩ := pick h0 h1
  exact ⟨v, e, q v hv⟩
theorem ex_pickm {α : Type} {xs : List α} {i : Int} {Q : α → Prop} (h : xs ≠ []) (q : ∀ v, v ∈ xs → Q v) : ∃ v, xs[(i % (xs.length : Int)).toNat]? = some v ∧ Q v := by
  obtain ⟨v, hv, e⟩ := pickm xs i h
  exact ⟨v, e, q v hv⟩
theorem Abc.app {a b : Wd} (h : Abc a) (k : Abc b) : Abc (a ++ b) := fun c hc => (List.mem_append.mp hc).elim (h c) (k c)
theorem Abc.take {a : Wd} (h : Abc a) (n : Nat) : Abc (a.take n) := fun c hc => h c (List.mem_of_mem_take hc)
theorem Abc.drop {a : Wd} (h : Abc a) (n : Nat) : Abc (a.drop n) := fun c hc => h c (List.mem_of_mem_drop hc)
theorem Word.abc {a : Wd} (h : Word a) : Abc a := h.2.2
theorem cutW_abc {a : Wd} (h : Abc a) (lo hi : Option Int) : Abc (cutW a lo hi) := fun c hc => h c (List.mem_of_mem_drop (List.mem_of_mem_take hc))
theorem Word.cut {a : Wd} (h : Abc a) (h1 : 1 ≤ a.length) {n : Int} (h2 : 1 ≤ n) (h3 : n ≤ 10) : Word (cutW a none (some n)) := by
  rw [cutW_toI a (by omega)]
  refine ⟨?_, ?_, h.take _⟩ <;> rw [List.length_take] <;> omega
end One
namespace One
open PySem PySem.Spec PyProof.Rows L2
def rSetLn : V → V → V → Hp → (Hp → Prop) → Prop := fun o i v H Q => ∃ (p : Addr) (k : Int), o = .ref p ∧ i = .int k ∧ ∃ xs, H p = some (.lst xs) ∧ 0 ≤ k ∧ k < xs.length ∧ Q (upd H p (.lst (xs.set k.toNat v)))
theorem set_ln {X : Cx} : PSet X rSetLn := fun pins s σ H o i v ov iv u Q I ro ri rv ⟨p, k, h1, h2, xs, h3, h4, h5, q⟩ =>
  set_list pins s σ H o i v ov iv u Q I ro ri rv ⟨p, xs, k, k.toNat, h1, h2, h3, by unfold ixN; rw [if_pos h4, if_pos h5], q⟩
def rSumN (K : PySem.W.Frag) : List V → Hp → VK → Prop := fun vs H Q => ∃ (a : Addr), vs = [V.ref a] ∧ ∃ ns : List Int, SqL K H a (ns.map V.int) ∧ Q (.int ns.sum) H
theorem call_sumn {X : Cx} (hc : X.calm = true) : CallR X (.builtin "sum") (rSumN X.K) := fun pins s σ H vs us Q I r ⟨a, h1, ns, h2, q⟩ => cr_sum hc pins s σ H vs us Q I r ⟨a, ns, h1, h2, q⟩
end One

namespace One
open PySem PySem.Spec PyProof.Rows L2
/-! ### sorted(texts, key=len) -/
theorem len_turn {prog : Program} {w : World} {A : Around} {s : Shared} {z : Str} {t : Tok} (hz : z.length ≤ sizeLine) :
    wpAny (model prog w) A (call (.builtin "len") [.str z t]) (PySem.W.KeyPure (.int z.length) s) (fun _ _ => False) s := by
  have hn := line63
  exact len_str (by omega) ⟨s.heap, _, rfl, fun _ _ h => h, .int _ _⟩
theorem each_strs : ∀ {us : List Value} {xs : List Str}, StrsAre us xs → PySem.W.EachIs (fun v x => ∃ t, v = .str x t) us xs
  | _, _, .nil => .nil
  | _, _, .cons _ t h => .cons ⟨t, rfl⟩ (each_strs h)
theorem strs_each : ∀ {us : List Value} {xs : List Str}, PySem.W.EachIs (fun v x => ∃ t, v = .str x t) us xs → StrsAre us xs
  | _, _, .nil => .nil
  | _, _, .cons ⟨t, e⟩ h => by subst e; exact .cons _ t (strs_each h)
def tSortLen (K : PySem.W.Frag) (ta : TA) : TE := fun σ H Q => ta σ H fun vs H1 => ∃ a, vs = [.ref a] ∧ ∃ ws : List Wd, SqL K H1 a (ws.map sv) ∧ ws.length ≤ 1000 ∧ (∀ w ∈ ws, w.length ≤ 1000) ∧ ∀ (zs : List Wd) (p : Addr), zs.Perm ws → zs.Pairwise (fun x y => x.length ≤ y.length) → H1 p = none → Q (.ref p) (upd H1 p (.lst (zs.map sv)))
theorem map_strs (ws : List Wd) : (ws.map S).map V.str = ws.map sv := by rw [List.map_map]; rfl
theorem perm_S {zs : List Str} {ws : List Wd} (h : zs.Perm (ws.map S)) : ∃ ys : List Wd, zs = ys.map S ∧ ys.Perm ws := by
  refine ⟨zs.map fun z => z.cps.toList, ?_, ?_⟩
  · rw [List.map_map]
    have : ∀ z ∈ zs, (S ∘ fun z => z.cps.toList) z = z := fun z hz => by
      obtain ⟨a, _, rfl⟩ := List.mem_map.mp (h.mem_iff.mp hz)
      rfl
    exact (List.map_id' zs).symm.trans (List.map_congr_left fun z hz => (this z hz).symm)
  · have := h.map fun z : Str => z.cps.toList
    rw [List.map_map] at this
    have e : ((fun z : Str => z.cps.toList) ∘ S) = id := by funext a; rfl
    rw [e, List.map_id] at this
    exact this
theorem pe_sortLen {X : Cx} {p p2 p3 pos : Pos} {e : Expr} {ta : TA} (hu : X.A.units + 64 < cLine) (hg : Gl X "sorted") (hm : X.mg "sorted" = none) (hgl : Gl X "len") (hml : X.mg "len" = none) (ha : PA X [e] ta)
    (h1 : backTo pos (starEach [e] X.env) = (false, eval e X.env) :: backTo pos (starEach [] X.env) := by rfl) (hpl : (backTo pos (starEach [e] X.env)).any (·.1) = false := by rfl)
    (hall : (backToKw pos (keywordEach [⟨some (Str.ofString "key"), .Name "len" p2, p3⟩] X.env)).all (·.1.isSome) = true := by rfl) (hnone : (backToKw pos (keywordEach [⟨some (Str.ofString "key"), .Name "len" p2, p3⟩] X.env)).any (·.1.isNone) = false := by rfl) (hks : (backToKw pos (keywordEach [⟨some (Str.ofString "key"), .Name "len" p2, p3⟩] X.env)).filterMap (·.1) = [Str.ofString "key"] := by rfl) :
    PE X (.Call (.Name "sorted" p) [e] [⟨some (Str.ofString "key"), .Name "len" p2, p3⟩] pos) (tSortLen X.K ta) := by
  refine ⟨fun pins s σ H Q I h => ?_⟩
  refine wpAny_Call_Name_kw (ld_blt I hg hm boot_sorted ?_)
  refine PyProof.Rows.callWith_kw (thn (ha.run pos pins s σ H _ I h) fun us s1 ⟨vs, H1, I1, r1, q1⟩ => ?_) h1 hpl hall hnone
  obtain ⟨a, rfl, ws, hS, hl, hb, q⟩ := q1
  obtain rfl := Vals.ref1 r1
  show wpAny _ _ (evalAll ((do let v ← eval (.Name "len" p2) X.env; standAt pos; pure v) :: [])) _ _ s1
  refine wpAny_evalAll_cons (wpAny_bind (ld_blt I1 hgl hml boot_len (wpAny_bind (wpAny_standAt (wpAny_pure (wpAny_evalAll_nil ?_))))))
  rw [hks]
  show wpAny _ _ (call (.builtin "sorted") [.ref a] [(Str.ofString "key", .builtin "len")]) _ _ s1
  obtain ⟨its, rv, pl, _⟩ := I1.list hS
  rw [← map_strs] at rv
  have e1 := each_strs rv.strs
  refine PySem.W.sorted_key_data (b := false) (fun z : Str => .int (z.length : Int)) pl.isList e1 ?_ ?_ (by rw [List.length_map]; exact sz (by omega)) (fun _ _ => ?_) (PyProof.Rows.ksk_s1 _ _) (fun _ => PyProof.Rows.ksk_l1 _ _) (fun x => PyProof.Rows.ksk_t4 "len" x) ?_ ?_
  · exact fun d hd d' hd' => by
      obtain ⟨a, _, rfl⟩ := List.mem_map.mp hd
      obtain ⟨b, _, rfl⟩ := List.mem_map.mp hd'
      rfl
  · exact .inr fun d hd => by
      obtain ⟨a, _, rfl⟩ := List.mem_map.mp hd
      exact ⟨fun z => (by cases z), fun _ z => (by cases z)⟩
  · show X.A.units + 2 + 0 < cLine
    omega
  · rintro v x ⟨t, rfl⟩ hx h tk _
    obtain ⟨w, hw, rfl⟩ := List.mem_map.mp hx
    exact len_turn (by rw [S_len]; exact sz (by have := hb w hw; omega))
  · intro out c h' tk keep fr new hlen each
    rw [PySem.W.dataLe_int] at each
    obtain ⟨ys, eys, py⟩ := perm_S (List.mergeSort_perm (ws.map S) _)
    have pw := List.pairwise_mergeSort (le := fun a b : Str => decide ((a.length : Int) ≤ b.length)) (fun a b c h1 h2 => by simp only [decide_eq_true_eq] at *; omega) (fun a b => by simp only [Bool.or_eq_true, decide_eq_true_eq]; omega) (ws.map S)
    rw [eys] at pw each
    rw [List.pairwise_map] at pw
    have vo : Vals (ys.map sv) out := by rw [← map_strs]; exact vals_of_strs (strs_each each)
    have lo : (ys.map sv).length ≤ sizeLine := by rw [List.length_map, py.length_eq]; exact sz (by omega)
    exact ⟨.ref (s1.heap.objs.size + 1), upd H1 (s1.heap.objs.size + 1) (.lst (ys.map sv)), I1.laid (t' := tk) keep (Nat.le_succ _) ⟨lo, out, c, vo, new⟩, rfl, q ys _ py (pw.imp fun h => by simpa [S_len] using h) (I1.hok.fresh (Nat.le_succ _))⟩
end One
namespace One
open PySem PySem.Spec PyProof.Rows L2
def rSortedW (K : PySem.W.Frag) : List V → Hp → VK → Prop := fun vs H Q => ∃ a : Addr, vs = [V.ref a] ∧ ∃ xs : List Wd, SqL K H a (xs.map sv) ∧ xs.length < 64 ∧
  ∀ (ys : List Wd), ys.Perm xs → sortedS (ys.map S) = true → ∀ p : Addr, H p = none → Q (.ref p) (upd H p (.lst (ys.map sv)))
theorem call_sortedw {X : Cx} : CallR X (.builtin "sorted") (rSortedW X.K) := fun pins s σ H vs us Q I r ⟨a, e, xs, h1, h2, q⟩ =>
  cr_sortedS pins s σ H vs us Q I r ⟨a, xs.map S, e, by rw [map_strs]; exact h1, by rw [List.length_map]; exact h2, fun ys p py so hp => by
    obtain ⟨zs, rfl, pz⟩ := perm_S py
    rw [map_strs]
    exact q zs pz so p hp⟩
end One
namespace One
open PySem PySem.Spec PyProof.Rows L2
section
variable {K : PySem.W.Frag} {tt : TT} {te : TE} {Qd : Hp → Prop} {σ : L2.St} {H1 : Hp} {a D : Addr}
def wv : V → Wd
  | .str x => x.cps.toList
  | _ => []
/-- a comprehension over a list of texts -/
theorem lc_w {xs : List Wd} {j : Nat} (c : Wd → Bool) (y : Wd → V) (hD : H1 D = none) (hS : SqL K H1 a (xs.map sv)) (hz : xs.length ≤ 100000)
    (ht : ∀ x ∈ xs, EvB tt ((wipe σ [j]).set j (some (sv x))) H1 (c x)) (he : ∀ x ∈ xs, c x = true → EvV te ((wipe σ [j]).set j (some (sv x))) H1 (y x))
    (hd : ∀ H', Same H1 H' → H' D = some (.lst ((xs.filter c).map y)) → Qd H') :
    ∃ W : Nat → Nat → Hp → Prop, (∃ m, W 0 m (upd H1 D (.lst []))) ∧ ∀ i m H, W i m H →
      ((Itl K a).stop i H ∧ Qd H) ∨ ((Itl K a).go i H ∧ ∃ Nx : Hp → Prop, (∀ H', Nx H' → ∃ m', m' < m ∧ W (i + 1) m' H') ∧ ∀ x H', (Itl K a).yld i H x H' → gName j x (wipe σ [j]) H' fun σ2 H2 => wipe σ2 [j] = wipe σ [j] ∧ tt σ2 H2 fun b H3 =>
        if b = true then te σ2 H3 fun y H4 => ∃ acc, H4 D = some (.lst acc) ∧ acc.length < sizeLine ∧ Nx (upd H4 D (.lst (acc ++ [y]))) else Nx H3) := by
  refine lc_vals (fun v => c (wv v)) (fun v => y (wv v)) hD hS (by rw [List.length_map]; exact hz) (fun x hx => ?_) (fun x hx hc => ?_) (fun H' e h => hd H' e ?_)
  · obtain ⟨b, hb, rfl⟩ := List.mem_map.mp hx
    exact ht b hb
  · obtain ⟨b, hb, rfl⟩ := List.mem_map.mp hx
    exact he b hb hc
  · rw [List.filter_map, List.map_map] at h
    exact h
theorem evYes {σ : L2.St} {H : Hp} : EvB tYes σ H true := fun H' e Q q => q _ (Same.refl _)
end
end One
namespace One
open PySem PySem.Spec PyProof.Rows L2
section
variable {tb : TS} {D : Ends} {σ : L2.St} {H : Hp}
/-- over a text, sign by sign: Pv by what was taken -/
theorem for_str {a : Wd} {j : Nat} (Pv : Wd → L2.St → Hp → Prop) (h0 : Pv [] σ H)
    (hs : ∀ pre x post σ' H', a = pre ++ x :: post → Pv pre σ' H' → tb { D with nx := Pv (pre ++ [x]), ct := Pv (pre ++ [x]), bk := D.nx } (σ'.set j (some (sv [x]))) H') (hd : ∀ σ' H', Pv a σ' H' → D.nx σ' H') :
    ∃ W : Nat → Nat → L2.St → Hp → Prop, (∃ m, W 0 m σ H) ∧ ∀ i m σ H, W i m σ H →
      ((Its (S a)).stop i H ∧ D.nx σ H) ∨ ((Its (S a)).go i H ∧ ∃ N : L2.St → Hp → Prop, (∀ σ' H', N σ' H' → ∃ m', m' < m ∧ W (i + 1) m' σ' H') ∧ ∀ x H', (Its (S a)).yld i H x H' → gName j x σ H' fun σ2 H2 => tb { D with nx := N, ct := N, bk := D.nx } σ2 H2) := by
  refine for_it walk_str (fun i σ' H' => Pv (a.take i) σ' H') (by rw [List.take_zero]; exact h0) (fun _ _ _ _ _ => trivial) ?_ (fun σ' H' p => hd σ' H' ?_)
  · rintro i x σ H H' hi p ⟨rfl, c, hc, rfl⟩
    have hc' : a[i]? = some c := by
      rw [← hc]; exact (List.getElem?_toArray).symm
    obtain ⟨hi', ey⟩ := List.getElem?_eq_some_iff.mp hc'
    have e1 : a = a.take i ++ c :: a.drop (i + 1) := by rw [← ey, List.getElem_cons_drop, List.take_append_drop]
    have e2 : a.take (i + 1) = a.take i ++ [c] := by rw [List.take_add_one, hc']; rfl
    show tb { D with nx := fun σ' H' => Pv (a.take (i + 1)) σ' H', ct := fun σ' H' => Pv (a.take (i + 1)) σ' H', bk := D.nx } (σ.set j (some (sv [c]))) _
    rw [e2]
    exact hs _ c _ σ _ e1 p
  · have : (S a).cps.size = a.length := by show a.toArray.size = _; simp
    rw [this, List.take_length] at p
    exact p
end
end One
namespace One
open PySem PySem.Spec PyProof.Rows L2
abbrev di (i : Int) : PyData := .int i
theorem dpAll_ints {K : PySem.W.Frag} {H : Hp} : ∀ xs : List Int, DpAll K H (xs.map V.int) (xs.map di)
  | [] => .nil
  | x :: r => .cons (.int _) (dpAll_ints r)
theorem eqvAll_ints : ∀ xs ys : List Int, PyData.eqvAll (xs.map di) (ys.map di) = decide (xs = ys)
  | [], [] => rfl
  | [], _ :: _ => by simp [PyData.eqvAll]
  | _ :: _, [] => by simp [PyData.eqvAll]
  | x :: xs, y :: ys => by
    have e : PyData.eqv (.int x) (.int y) = decide (x = y) := by
      simp only [PyData.eqv]
      by_cases h : x = y
      · subst h; simp
      · rw [decide_eq_false h]; simpa using h
    simp only [List.map_cons, PyData.eqvAll, e, eqvAll_ints xs ys, List.cons.injEq, Bool.decide_and]
theorem eqv_ints (xs ys : List Int) : PyData.eqv (.list (xs.map di)) (.list (ys.map di)) = decide (xs = ys) := by
  rw [← eqvAll_ints xs ys]; simp only [PyData.eqv]
theorem plain_ints : ∀ xs : List Int, PyData.plainAll (xs.map di) = true
  | [] => rfl
  | x :: r => by simp only [List.map_cons, PyData.plainAll, PyData.plain, plain_ints r, Bool.and_self]
theorem depth_ints : ∀ xs : List Int, PyData.depthAll (xs.map di) = 0
  | [] => rfl
  | x :: r => by simp only [List.map_cons, PyData.depthAll, PyData.depth, depth_ints r, Nat.max_self]
theorem ok_ints (xs : List Int) : okD (.list (xs.map di)) = true := by
  unfold okD
  simp only [PyData.plain, PyData.depth, plain_ints, depth_ints]
  decide
theorem ok_nil : okD (.list []) = true := rfl
def rClearN : V → List V → Hp → VK → Prop := fun x vs H Q => ∃ l : Addr, x = .ref l ∧ vs = [] ∧ ∃ xs, H l = some (.lst xs) ∧ Q .non (upd H l (.lst []))
theorem mt_clrn {X : Cx} : MtM X "list.clear" rClearN := MtM.imp mt_clear fun x vs H Q ⟨l, e1, e2, xs, h, q⟩ => ⟨l, xs, e1, e2, h, q⟩
end One

namespace One
open PySem PySem.Spec PyProof.Rows L2
/-! ### dicts by raw tables -/
theorem kI (i : Int) : V.int i = kV (.inl i) := rfl
theorem kS (a : Wd) : sv a = kV (.inr (S a)) := rfl
def tDInN (neg : Bool) (ty td : TE) : TE := fun σ H Q => ty σ H fun y H1 => td σ H1 fun x H2 => ∃ a, x = .ref a ∧ ∃ k, y = kV k ∧ ∃ kvs, H2 a = some (.dK kvs) ∧ Q (.bl (if neg then !(valV kvs k).isSome else (valV kvs k).isSome)) H2
def tDGetN (td ty : TE) : TE := fun σ H Q => td σ H fun x H1 => ty σ H1 fun y H2 => ∃ a, x = .ref a ∧ ∃ k, y = kV k ∧ ∃ kvs, H2 a = some (.dK kvs) ∧ ∃ v, valV kvs k = some v ∧ Q v H2
def sDPutN (td ty tv : TE) : TS := fun D σ H => tv σ H fun v H1 => td σ H1 fun x H2 => ty σ H2 fun y H3 => ∃ a, x = .ref a ∧ ∃ k, y = kV k ∧ ∃ kvs, H3 a = some (.dK kvs) ∧ kvs.length < 100000 ∧ D.nx σ (upd H3 a (.dK (putK kvs k v)))
def tDGet1N (td ty : TE) : TE := fun σ H Q => td σ H fun x H1 => ∃ a, x = .ref a ∧ ∃ kvs0, H1 a = some (.dK kvs0) ∧ ty σ H1 fun y H2 => ∃ k, y = kV k ∧ ∃ kvs, H2 a = some (.dK kvs) ∧ Q ((valV kvs k).getD .non) H2
section
variable {X : Cx} {o i e value : Expr} {pos pos' apos cpos : Pos} {td ty tv : TE}
theorem pc_dinN (hu : X.A.units + 1 < cLine) (hi : PE X i ty) (ho : PE X o td) : PC X .In i o (tDInN false ty td) := by
  refine ⟨fun pins s σ H Q I h => ?_⟩
  refine thn (hi.run pins s σ H _ I h) fun iv s1 ⟨y, H1, I1, ry, q1⟩ => thn (ho.run pins s1 σ H1 _ I1 q1) fun u s2 ⟨x, H2, I2, rx, a, ex, k, ey, kvs, hk, q2⟩ => ?_
  subst ex ey
  obtain rfl : u = Value.ref a := rx
  exact d_in hu I2 (DGet.k hk) ry fun s3 I3 => ⟨.bl (valV kvs k).isSome, H2, I3, rfl, q2⟩
theorem pc_dniN (hu : X.A.units + 1 < cLine) (hi : PE X i ty) (ho : PE X o td) : PC X .NotIn i o (tDInN true ty td) := by
  refine ⟨fun pins s σ H Q I h => ?_⟩
  refine thn (hi.run pins s σ H _ I h) fun iv s1 ⟨y, H1, I1, ry, q1⟩ => thn (ho.run pins s1 σ H1 _ I1 q1) fun u s2 ⟨x, H2, I2, rx, a, ex, k, ey, kvs, hk, q2⟩ => ?_
  subst ex ey
  obtain rfl : u = Value.ref a := rx
  exact d_notIn hu I2 (DGet.k hk) ry fun s3 I3 => ⟨.bl (!(valV kvs k).isSome), H2, I3, rfl, q2⟩
theorem pe_dgetN (hu : X.A.units + 1 < cLine) (ho : PE X o td) (hi : PE X i ty) (hs : NoSl i) : PE X (.Subscript o i pos) (tDGetN td ty) := by
  refine ⟨fun pins s σ H Q I h => ?_⟩
  refine subD_of PySem.F.slot_dict_getitem.lookup hs (thn (ho.run pins s σ H _ I h) fun u s1 ⟨x, H1, I1, rx, q1⟩ => thn (hi.run pins s1 σ H1 _ I1 q1) fun iv s2 ⟨y, H2, I2, ry, a, ex, k, ey, kvs, hk, v, hv, q2⟩ => ?_)
  subst ex ey
  obtain rfl : u = Value.ref a := rx
  have g : DGet H2 a (kV k) (some v) := by rw [← hv]; exact DGet.k hk
  exact ⟨dict_typeIs I2 g, d_getItem hu I2 g ry fun w' s3 I3 rw' => ⟨v, H2, I3, rw', q2⟩⟩
theorem ps_dputN (hu : X.A.units + 1 < cLine) (ho : PE X o td) (hi : PE X i ty) (hv : PE X value tv) (hs : swapsWith value (some (.Subscript o i pos')) pos.line X.env = pure false) :
    PS X (.Assign [.Subscript o i pos'] value pos) (sDPutN td ty tv) := by
  refine ⟨fun pins s σ H D I h => ?_⟩
  refine wpAny_Assign_Subscript (thn (hv.run pins s σ H _ I h) fun r s1 ⟨v, H1, I1, rv, q1⟩ => thn (ho.run pins s1 σ H1 _ I1 q1) fun u s2 ⟨x, H2, I2, rx, q2⟩ => thn (hi.run pins s2 σ H2 _ I2 q2) fun iv s3 ⟨y, H3, I3, ry, a, ex, k, ey, kvs, hk, hl, q3⟩ => ?_) hs
  subst ex ey
  obtain rfl : u = Value.ref a := rx
  exact d_setItem hu I3 (DPut.k hk (szl hl)) ry rv fun s4 I4 => ⟨σ, _, I4, q3⟩
theorem pe_dget1N (hu : X.A.units + 1 < cLine) (ho : PE X o td) (he : PE X e ty) (m : M1 X o "get" apos e cpos) : PE X (.Call (.Attribute o "get" apos) [e] [] cpos) (tDGet1N td ty) := by
  refine ⟨fun pins s σ H Q I h => ?_⟩
  refine wpAny_Call_method m.base m.few m.line PySem.F.plainAttrs_dict PySem.F.slot_dict_get PySem.F.type_dict_get (thn (ho.run pins s σ H _ I h) fun u s1 ⟨x, H1, I1, rx, a, ex, kvs0, d0, q1⟩ => ?_)
  subst ex
  obtain rfl : u = Value.ref a := rx
  obtain ⟨t1, t2, _⟩ := isD_at I1 (.inl ⟨kvs0, .inl d0⟩)
  refine ⟨t1, t2, ?_⟩
  rw [m.trees]
  refine Calls.callWith_builtin rfl (Calls.evalArgs_plain (Calls.spliced_cons (thn (he.run pins s1 σ H1 _ I1 q1) fun iv s2 ⟨y, H2, I2, ry, k, ey, kvs, hk, q2⟩ => Calls.spliced_nil ?_)))
  subst ey
  exact d_get1 hu I2 (DGet.k hk) ry fun w' s3 I3 rw' => ⟨_, H2, I3, rw', q2⟩
def rLenDN : List V → Hp → VK → Prop := fun xs H Q => ∃ a, xs = [V.ref a] ∧ ∃ kvs, H a = some (.dK kvs) ∧ Q (.int kvs.length) H
theorem call_lendn : CallR X (.builtin "len") rLenDN := CallR.imp call_lenD fun xs H Q ⟨a, e, kvs, h, q⟩ => ⟨a, kvs, e, h, q⟩
/-- an int in a list of ints -/
def rInN (K : PySem.W.Frag) (neg : Bool) : R2 := fun x y H Q => ∃ (n : Int) (p : Addr), x = .int n ∧ y = .ref p ∧ ∃ ns : List Int, SqL K H p (ns.map V.int) ∧ Q (.bl (if neg then !decide (n ∈ ns) else decide (n ∈ ns))) H
theorem inV_ints (n : Int) (ns : List Int) : inV (.int n) (ns.map V.int) = decide (n ∈ ns) := by
  unfold inV
  rw [List.any_map, Bool.eq_iff_iff, List.any_eq_true, decide_eq_true_iff]
  constructor
  · rintro ⟨x, hx, e⟩
    have e2 : (x == n) = true := e
    have e3 : x = n := by simpa using e2
    rw [← e3]; exact hx
  · intro h
    exact ⟨n, h, by show (n == n) = true; simp⟩
theorem flat_ints (xs : List Int) : (xs.map V.int).all flatV = true := by
  rw [List.all_eq_true]
  intro v hv
  obtain ⟨a, _, rfl⟩ := List.mem_map.mp hv
  rfl
theorem op_inn : OpR X (compareOp .In) (rInN X.K false) := OpR.imp op_in_seq fun x y H Q ⟨a, p, hx, hy, xs, h, q⟩ => ⟨p, xs.map V.int, hy, .inl h, by rw [hx]; rfl, flat_ints xs, by rw [hx, inV_ints]; exact q⟩
theorem op_nin : OpR X (compareOp .NotIn) (rInN X.K true) := OpR.imp op_notIn_seq fun x y H Q ⟨a, p, hx, hy, xs, h, q⟩ => ⟨p, xs.map V.int, hy, .inl h, by rw [hx]; rfl, flat_ints xs, by rw [hx, inV_ints]; exact q⟩
end
end One


set_option Elab.async false
set_option linter.all false
set_option maxRecDepth 100000
set_option maxHeartbeats 400000
set_option pp.maxSteps 700
namespace One
open PySem PySem.Spec PyProof.Rows L2
local macro_rules | `(tactic| fail "as") => `(tactic| with_reducible assumption)
local macro_rules | `(tactic| fail "same") => `(tactic| first
  | with_reducible exact Same.refl _
  | fail "as"
  | ((with_reducible show Same _ (upd _ _ _)); first
    | exact Same.trans (by fail "same") (new (by fail "as"))
    | exact mutd (by fail "same") (by fail "fr"))
  | ((with_reducible refine Same.trans ?_ (by fail "as")); fail "same"))
local macro_rules | `(tactic| fail "fr") => `(tactic| first
  | fail "as"
  | ((with_reducible refine Same.free ?_ (by fail "as")); fail "same"))
local macro_rules | `(tactic| fail "look") => `(tactic| first
  | ((with_reducible show upd _ _ _ _ = _); first
    | with_reducible exact upd_same
    | with_reducible exact upd_nil
    | with_reducible exact upd_snoc
    | ((with_reducible refine upd_at (by fail "as") ?_); fail "look")
    | ((with_reducible refine new_at (by fail "fr") ?_); fail "look"))
  | fail "as"
  | ((with_reducible refine same_at (by fail "as") ?_); fail "look")
  | ((with_reducible refine same_at ?_ (by fail "as")); fail "same"))
local macro_rules | `(tactic| fail "ne") => `(tactic| (refine ne_free (by fail "as") (by fail "look")))
local macro_rules | `(tactic| fail "seq") => `(tactic| first
  | fail "as"
  | ((with_reducible show SqL _ _ _ _); with_reducible exact SqL.of (by fail "look"))
  | ((with_reducible show SqT _ _ _ _); with_reducible exact SqT.of (by fail "look"))
  | ((with_reducible refine Same.seq ?_ (by fail "as")); fail "same")
  | ((with_reducible refine sqT ?_ (by fail "as")); fail "same"))
local macro_rules | `(tactic| fail "sq") => `(tactic| first
  | ((with_reducible show SqL _ _ _ _); fail "seq")
  | ((with_reducible show SqT _ _ _ _); fail "seq")
  | ((with_reducible show _ = some _); fail "look"))
local macro_rules | `(tactic| fail "le") => `(tactic| first
  | fail "as"
  | with_reducible exact sz (by simp)
  | ((try simp only [List.length_append, List.length_cons, List.length_nil, List.length_map, List.length_replicate, List.length_set]); omega)
  | exact Int.emod_nonneg _ (by omega)
  | decide)
local macro_rules | `(tactic| fail "lf") => `(tactic| first
  | fail "as"
  | ((with_reducible show _ = _); exact rfl)
  | ((with_reducible show _ ≤ _); fail "le")
  | ((with_reducible show _ < _); first | decide | fail "as" | omega)
  | fail "sq"
  | ((with_reducible show CDiv _ _); exact ⟨by decide, by decide⟩)
  | ((with_reducible show CMul _ _); first | exact .inl ⟨by decide, by decide⟩ | exact .inr ⟨by decide, by decide⟩ | exact .inl ⟨by omega, by omega⟩ | exact .inr ⟨by omega, by omega⟩)
  | exact ⟨_, rfl⟩
  | exact ⟨_, by fail "sq"⟩
  | exact tyL (by fail "seq")
  | (refine ⟨?_, ?_, ?_, ?_⟩ <;> omega)
  | (show (0 : Int) < _; first | decide | omega)
  | (show (_ : Int) ≠ 0; first | decide | omega))
local macro_rules | `(tactic| fail "dp") => `(tactic| first
  | exact .str _ | exact .int _ | exact .bl _ | exact .non
  | exact .tup (by fail "seq") (by fail "dps")
  | exact .lst (by fail "seq") (by fail "dps"))
local macro_rules | `(tactic| fail "dps") => `(tactic| first
  | with_reducible exact dpAll_strs _
  | with_reducible exact dpAll_ints _
  | ((with_reducible show DpAll _ _ (_ :: _) _); exact .cons (by fail "dp") (by fail "dps"))
  | exact .nil)
local macro_rules | `(tactic| fail "dpS") => `(tactic| ((with_reducible show Dp _ _ _ _); fail "dp"))
local macro_rules | `(tactic| fail "ga") => `(tactic| ((with_reducible show _ = some _); fail "as"))
local macro_rules | `(tactic| fail "gE") => `(tactic| first
  | with_reducible refine ⟨_, by fail "dpS", ?_⟩
  | refine ⟨_, kI _, ?_⟩
  | refine ⟨_, kS _, ?_⟩
  | refine ⟨_, by fail "ga", ?_⟩
  | refine ⟨_, rfl, ?_⟩
  | refine ⟨_, _, rfl, rfl, ?_⟩
  | refine ⟨_, _, rfl, ?_⟩
  | refine ⟨_, _, _, rfl, ?_⟩
  | refine ⟨_, _, _, _, rfl, ?_⟩
  | refine ⟨_, rfl, rfl, ?_⟩
  | refine ⟨_, _, _, rfl, rfl, ?_⟩
  | refine ⟨_, by fail "sq", ?_⟩
  | refine ⟨_, _, rfl, by fail "sq", rfl, ?_⟩
  | refine ⟨_, TyW.int _, ?_⟩
  | refine ⟨_, TyW.str _, ?_⟩
  | refine ⟨_, TyW.non, ?_⟩
  | refine ⟨_, TyW.bl _, ?_⟩
  | refine ⟨_, TyW.tup (by fail "look"), ?_⟩
  | refine ⟨_, TyW.lst (by fail "look"), ?_⟩)
local macro_rules | `(tactic| fail "g1") => `(tactic| first
  | (refine (show ∃ _, _ from ?_); fail "gE")
  | (refine (show _ ∧ _ from ?_); refine And.intro (by fail "lf") ?_))
local macro_rules | `(tactic| fail "go") => `(tactic| repeat (fail "g1"))
local macro_rules | `(tactic| fail "gi") => `(tactic| repeat (first
  | fail "g1"
  | refine (show Ret _ _ _ from fun H' s' => ?_)
  | refine (show RetL _ _ _ from fun p H' s' np hp => ?_)
  | refine (show RetT _ _ _ from fun p H' s' np hp => ?_)
  | refine (show ∀ p : Addr, _ = none → _ from fun p hp => ?_)))
def top (i : Nat) : Stmt := PySem.Challenge.pw_onereading_k05_beginnings_of_texts.main.body.getD i (.Pass ⟨0, 0, 0, 0⟩)
section
variable {P : Program} {w : World} {K : PySem.W.Frag} {mg : Str → Option Value} {base : Heap}

def cell (ns : List Int) (k : Int) : Int := ns.getD k.toNat 0
abbrev s_law_at : Stmt := top 17
theorem sc_law_at : FnScope ["_law_script", "_law_k"] ["_law_script", "_law_k"] (defScope s_law_at) := ⟨rfl, rfl, rfl, by decide +kernel, rfl, by decide +kernel, by decide +kernel⟩
def sp_law_at (K : PySem.W.Frag) : Sp := fun vs H Q _ => ∃ (p : Addr) (k : Int), vs = [.ref p, .int k] ∧ ∃ ns : List Int, SqL K H p (ns.map V.int) ∧ 0 ≤ k ∧ Q (.int (cell ns k)) H
theorem ok_law_at (B : Bi mg) (D : Def K mg "_law_at" s_law_at) : Cal P w K mg base CX0 "_law_at" 1 ["_law_script", "_law_k"] (sp_law_at K) := by
  have nd := sc_law_at.nd
  refine D.cal sc_law_at (fun _ _ _ _ _ _ us hl => match us, hl with | [_, _], _ => rfl) (fun vs H Q E h => ?_) (fun f cdv A outer s H vs Q E hr h => ?_)
  · obtain ⟨_, _, rfl, _⟩ := h
    rfl
  · obtain ⟨p, k, rfl, ns, hS, h0, q⟩ := h
    refine ⟨_, PSs.nox (pss_cons (ps_if (pt_cmpR op_lt (pv 1) (pe_callB (r := rLenL K) call_lenl (by rfl) B.len PySem.boot_len (pa_cons (pv 0) pa_nil)) (nomark _))
        (pss_one (ps_ret (pe_ix (r := rIxLn K) ix_l (pv 0) (pv 1) (fun _ _ => rfl))))
        pss_nil)
      (pss_one (ps_ret pe_int))), ?_⟩
    try dsimp only [cxOf, Cx.nox, Cx.wish]
    fail "go"
    refine itd (fun e => ?_) fun e => ?_
    · rw [List.length_map] at e
      have h1 : k.toNat < ns.length := by omega
      fail "go"
      refine ⟨.int (cell ns k), ?_, q⟩
      rw [List.getElem?_map, List.getElem?_eq_getElem h1]
      unfold cell
      rw [List.getD_eq_getElem?_getD, List.getElem?_eq_getElem h1]
      rfl
    · rw [List.length_map] at e
      have : cell ns k = 0 := by
        unfold cell
        rw [List.getD_eq_getElem?_getD, List.getElem?_eq_none (by omega)]
        rfl
      rw [this] at q
      exact q
def mixed (c k : Int) : Int := (c + 7919 * k + 3) * 48271 % 2147483647 * ((c + 7919 * k + 3) * 48271 % 2147483647) % 2147483629
theorem mixed_nn (c k : Int) : 0 ≤ mixed c k := Int.emod_nonneg _ (by decide)
abbrev s_law_mixed : Stmt := top 18
theorem sc_law_mixed : FnScope ["_law_cell", "_law_k", "_law_number"] ["_law_cell", "_law_k"] (defScope s_law_mixed) := ⟨rfl, rfl, rfl, by decide +kernel, rfl, by decide +kernel, by decide +kernel⟩
def sp_law_mixed : Sp := fun vs H Q _ => ∃ c k : Int, vs = [.int c, .int k] ∧ Q (.int (mixed c k)) H
theorem ok_law_mixed (B : Bi mg) (D : Def K mg "_law_mixed" s_law_mixed) : Cal P w K mg base CX0 "_law_mixed" 1 ["_law_cell", "_law_k"] sp_law_mixed := by
  have nd := sc_law_mixed.nd
  refine D.cal sc_law_mixed (fun _ _ _ _ _ _ us hl => match us, hl with | [_, _], _ => rfl) (fun vs H Q E h => ?_) (fun f cdv A outer s H vs Q E hr h => ?_)
  · obtain ⟨_, _, rfl, _⟩ := h
    rfl
  · obtain ⟨c, k, rfl, q⟩ := h
    refine ⟨_, PSs.nox (pss_cons (ps_set (i := 2) nd rfl (.inl rfl) (pe_op op_mod (pe_op op_mul (pe_op op_add (pe_op op_add (pv 0) (pe_op op_mul pe_int (pv 1))) pe_int) pe_int) pe_int))
      (pss_one (ps_ret (pe_op op_mod (pe_op op_mul (pv 2) (pv 2)) pe_int)))), ?_⟩
    try dsimp only [cxOf, Cx.nox, Cx.wish]
    have h1 := Int.emod_nonneg ((c + 7919 * k + 3) * 48271) (show (2147483647 : Int) ≠ 0 by decide)
    have h2 := Int.emod_lt_of_pos ((c + 7919 * k + 3) * 48271) (show (0 : Int) < 2147483647 by decide)
    fail "go"
    exact q
abbrev s_law_signs : Stmt := top 19
theorem sc_law_signs : FnScope ["_law_cell", "_law_some", "_law_many", "_law_k"] ["_law_cell"] (defScope s_law_signs) := ⟨rfl, rfl, rfl, by decide +kernel, rfl, by decide +kernel, by decide +kernel⟩
def sp_law_signs : Sp := fun vs H Q _ => ∃ c : Int, vs = [.int c] ∧ ∀ a : Wd, a ≠ [] → a.length ≤ 26 → Abc a → Ret H Q (sv a)
theorem ok_law_signs (B : Bi mg) (D : Def K mg "_law_signs" s_law_signs) : Cal P w K mg base CX0 "_law_signs" 1 ["_law_cell"] sp_law_signs := by
  have nd := sc_law_signs.nd
  refine D.cal sc_law_signs (fun _ _ _ _ _ _ us hl => match us, hl with | [_], _ => rfl) (fun vs H Q E h => ?_) (fun f cdv A outer s H vs Q E hr h => ?_)
  · obtain ⟨_, rfl, _⟩ := h
    rfl
  · obtain ⟨c, rfl, q⟩ := h
    refine ⟨_, PSs.nox (pss_cons (ps_set (i := 1) nd rfl (.inr rfl) (pe_w ABC rfl))
      (pss_cons (ps_set (i := 2) nd rfl (.inl rfl) (pe_ix (r := rIxLn K) ix_l (pe_lst (pa_cons pe_int (pa_cons pe_int (pa_cons pe_int (pa_cons pe_int (pa_cons pe_int (pa_cons pe_int pa_nil))))))) (pe_op op_mod (pv 0) pe_int) (fun _ _ => rfl)))
      (pss_one (ps_ret (pe_m1 (r := rJoW K) PySem.F.slot_str_join PySem.F.type_str_join mt_jow (pe_w [] rfl) (pe_lc (own := [("_law_k", 3)]) (g := gName 3) (tt := tYes) rfl nd (pi_range1 (by rfl) B.range (pa_cons (pv 2) pa_nil)) (blkOk_by (own := [("_law_k", 3)]) (N := ["_law_cell", "_law_some", "_law_many", "_law_k"]) (sc := defScope s_law_signs) (by decide +kernel)) (fun _ _ _ _ _ => (pg_name (i := 3) nd rfl (.inl rfl))) (fun _ _ _ _ _ => pts_nil) (fun _ _ _ _ _ => (pe_ix ix_w (pv 1) (pe_op op_mod (pe_op op_add (pe_op op_fdiv (pv 0) pe_int) (pe_op op_mul (pe_op op_add pe_int (pe_op op_mod (pe_op op_fdiv (pv 0) pe_int) pe_int)) (pv 3))) pe_int) (fun _ _ => rfl))))))))), ?_⟩
    try dsimp only [cxOf, Cx.nox, Cx.wish]
    fail "gi"
    rename_i p hp
    obtain ⟨v, hv, ev⟩ := pickm [V.int 2, V.int 1, V.int 2, V.int 3, V.int 2, V.int 5] c (by simp)
    obtain ⟨m, rfl, m0, m1⟩ : ∃ m : Nat, v = .int (m : Int) ∧ 1 ≤ m ∧ m ≤ 26 := by
      simp only [List.mem_cons, List.not_mem_nil, or_false] at hv
      rcases hv with rfl | rfl | rfl | rfl | rfl | rfl
      · exact ⟨2, rfl, by decide, by decide⟩
      · exact ⟨1, rfl, by decide, by decide⟩
      · exact ⟨2, rfl, by decide, by decide⟩
      · exact ⟨3, rfl, by decide, by decide⟩
      · exact ⟨2, rfl, by decide, by decide⟩
      · exact ⟨5, rfl, by decide, by decide⟩
    refine ⟨_, ev, ?_⟩
    fail "go"
    refine fun D hD => ?_
    have hn : ∀ i : Nat, ∃ x : Nat, x ∈ ABC ∧ ABC[((c / 6 + (1 + c / 156 % 25) * (0 + (i : Int))) % 26).toNat]? = some x := fun i => pickm ABC _ (by decide)
    refine lc_rng (lo := 0) (n := m) (j := 3) (fun i => sv [(hn i).choose]) hD (by omega) (fun i hi H1 e1 Q1 q1 => ?_) (fun H1 e1 h1 => ?_)
    · have hc0 := Int.emod_nonneg (c / 156) (show (25 : Int) ≠ 0 by decide)
      have hc1 := Int.emod_lt_of_pos (c / 156) (show (0 : Int) < 25 by decide)
      fail "go"
      exact ⟨_, (hn i).choose_spec.2, q1 _ (Same.refl _)⟩
    · fail "go"
      have ef := flat1 (fun i => (hn i).choose) (List.range m)
      have el : ((List.range m).map fun i => (hn i).choose).length = m := by rw [List.length_map, List.length_range]
      refine ⟨(List.range m).map fun i => [(hn i).choose], SqL.of (by rw [h1, List.map_map]; rfl), by rw [ef]; omega, ?_⟩
      rw [ef]
      refine q _ (fun z => ?_) (by omega) (fun x hx => ?_) _ (by fail "same")
      · rw [z] at el; simp at el; omega
      · obtain ⟨i, _, rfl⟩ := List.mem_map.mp hx
        exact (hn i).choose_spec.1
abbrev s_law_word : Stmt := top 20
theorem sc_law_word : FnScope ["_law_cell", "_law_signs_here", "_law_size", "_law_j"] ["_law_cell", "_law_signs_here"] (defScope s_law_word) := ⟨rfl, rfl, rfl, by decide +kernel, rfl, by decide +kernel, by decide +kernel⟩
def sp_law_word : Sp := fun vs H Q _ => ∃ (c : Int) (g : Wd), vs = [.int c, sv g] ∧ g ≠ [] ∧ g.length ≤ 26 ∧ Abc g ∧ ∀ a : Wd, Word a → Ret H Q (sv a)
theorem ok_law_word (B : Bi mg) (D : Def K mg "_law_word" s_law_word) (c_law_mixed : Cal P w K mg base CX0 "_law_mixed" 1 ["_law_cell", "_law_k"] sp_law_mixed) : Cal P w K mg base CX0 "_law_word" 2 ["_law_cell", "_law_signs_here"] sp_law_word := by
  have nd := sc_law_word.nd
  refine D.cal sc_law_word (fun _ _ _ _ _ _ us hl => match us, hl with | [_, _], _ => rfl) (fun vs H Q E h => ?_) (fun f cdv A outer s H vs Q E hr h => ?_)
  · obtain ⟨_, _, rfl, _⟩ := h
    rfl
  · obtain ⟨c, g, rfl, hg, hl, hA, q⟩ := h
    refine ⟨_, PSs.nox (pss_cons (ps_set (i := 2) nd rfl (.inl rfl) (pe_ix (r := rIxLn K) ix_l (pe_lst (pa_cons pe_int (pa_cons pe_int (pa_cons pe_int (pa_cons pe_int (pa_cons pe_int (pa_cons (pe_op op_add pe_int (pe_op op_mod (pe_op op_fdiv (pv 0) pe_int) pe_int)) (pa_cons pe_int (pa_cons pe_int pa_nil))))))))) (pe_op op_mod (pv 0) pe_int) (fun _ _ => rfl)))
      (pss_one (ps_ret (pe_m1 (r := rJoW K) PySem.F.slot_str_join PySem.F.type_str_join mt_jow (pe_w [] rfl) (pe_lc (own := [("_law_j", 3)]) (g := gName 3) (tt := tYes) rfl nd (pi_range1 (by rfl) B.range (pa_cons (pv 2) pa_nil)) (blkOk_by (own := [("_law_j", 3)]) (N := ["_law_cell", "_law_signs_here", "_law_size", "_law_j"]) (sc := defScope s_law_word) (by decide +kernel)) (fun _ _ _ _ _ => (pg_name (i := 3) nd rfl (.inl rfl))) (fun _ _ _ _ _ => pts_nil) (fun _ _ _ _ _ => (pe_ix ix_w (pv 1) (pe_op op_mod (pe_op op_fdiv (pe_cal c_law_mixed hr (pa_cons (pv 0) (pa_cons (pv 3) pa_nil))) pe_int) (pe_callB call_lenw (by rfl) B.len PySem.boot_len (pa_cons (pv 1) pa_nil))) (fun _ _ => rfl)))))))), ?_⟩
    try dsimp only [cxOf, Cx.nox, Cx.wish]
    have hc0 := Int.emod_nonneg (c / 8) (show (10 : Int) ≠ 0 by decide)
    have hc1 := Int.emod_lt_of_pos (c / 8) (show (0 : Int) < 10 by decide)
    fail "gi"
    rename_i p hp
    obtain ⟨v, hv, ev⟩ := pickm [V.int 1, V.int 2, V.int 3, V.int 2, V.int 4, V.int (1 + c / 8 % 10), V.int 3, V.int 2] c (by simp)
    obtain ⟨n, rfl, n0, n1⟩ : ∃ n : Int, v = .int n ∧ 1 ≤ n ∧ n ≤ 10 := by
      simp only [List.mem_cons, List.not_mem_nil, or_false] at hv
      rcases hv with rfl | rfl | rfl | rfl | rfl | rfl | rfl | rfl
      all_goals exact ⟨_, rfl, by omega, by omega⟩
    refine ⟨_, ev, ?_⟩
    fail "go"
    refine fun D hD => ?_
    have hn : ∀ i : Nat, ∃ x : Nat, x ∈ g ∧ g[(mixed c (0 + (i : Int)) / 64 % (g.length : Int)).toNat]? = some x := fun i => pickm g _ hg
    have hgl : 0 < g.length := List.length_pos_iff.mpr hg
    refine lc_rng (lo := 0) (n := n.toNat) (j := 3) (fun i => sv [(hn i).choose]) hD (by omega) (fun i hi H1 e1 Q1 q1 => ?_) (fun H1 e1 h1 => ?_)
    · fail "go"
      exact ⟨_, (hn i).choose_spec.2, q1 _ (Same.refl _)⟩
    · fail "go"
      have ef := flat1 (fun i => (hn i).choose) (List.range n.toNat)
      have el : ((List.range n.toNat).map fun i => (hn i).choose).length = n.toNat := by rw [List.length_map, List.length_range]
      refine ⟨(List.range n.toNat).map fun i => [(hn i).choose], SqL.of (by rw [h1, List.map_map]; rfl), by rw [ef]; omega, ?_⟩
      rw [ef]
      refine q _ ⟨by omega, by omega, fun x hx => ?_⟩ _ (by fail "same")
      obtain ⟨i, _, rfl⟩ := List.mem_map.mp hx
      exact hA _ (hn i).choose_spec.1
abbrev s_law_any_word : Stmt := top 21
theorem sc_law_any_word : FnScope ["_law_cell", "_law_word_here", "_law_more_here", "_law_j"] ["_law_cell"] (defScope s_law_any_word) := ⟨rfl, rfl, rfl, by decide +kernel, rfl, by decide +kernel, by decide +kernel⟩
def sp_law_any_word : Sp := fun vs H Q _ => ∃ c : Int, vs = [.int c] ∧ ∀ a : Wd, Word a → Ret H Q (sv a)
theorem ok_law_any_word (B : Bi mg) (D : Def K mg "_law_any_word" s_law_any_word) : Cal P w K mg base CX0 "_law_any_word" 1 ["_law_cell"] sp_law_any_word := by
  have nd := sc_law_any_word.nd
  refine D.cal sc_law_any_word (fun _ _ _ _ _ _ us hl => match us, hl with | [_], _ => rfl) (fun vs H Q E h => ?_) (fun f cdv A outer s H vs Q E hr h => ?_)
  · obtain ⟨_, rfl, _⟩ := h
    rfl
  · obtain ⟨c, rfl, q⟩ := h
    refine ⟨_, PSs.nox (pss_cons (ps_set (i := 1) nd rfl (.inl rfl) (pe_w [] rfl))
      (pss_cons (ps_set (i := 2) nd rfl (.inl rfl) (pe_op op_fdiv (pv 0) pe_int))
      (pss_cons (ps_for PassesOwn.never rfl (pi_range1 (by rfl) B.range (pa_cons (pe_op op_add pe_int (pe_op op_mod (pv 0) pe_int)) pa_nil)) (pg_name (i := 3) nd rfl (.inl rfl))
        (pss_cons (ps_set (i := 1) nd rfl (.inl rfl) (pe_op op_addw (pv 1) (pe_ix ix_w (pe_w ABC rfl) (pe_op op_mod (pv 2) pe_int) (fun _ _ => rfl))))
        (pss_one (ps_set (i := 2) nd rfl (.inl rfl) (pe_op op_fdiv (pv 2) pe_int)))))
      (pss_one (ps_ret (pv 1)))))), ?_⟩
    try dsimp only [cxOf, Cx.nox, Cx.wish]
    have hc0 := Int.emod_nonneg c (show (10 : Int) ≠ 0 by decide)
    have hc1 := Int.emod_lt_of_pos c (show (0 : Int) < 10 by decide)
    fail "gi"
    refine for_range (fun i σ' H' => ∃ (a : Wd) (m : Int) (x3 : Option V), σ' = [some (.int c), some (sv a), some (.int m), x3] ∧ Same H H' ∧ a.length = i ∧ Abc a) ⟨[], _, _, rfl, Same.refl _, rfl, fun _ h => nomatch h⟩ ?_ ?_
    · rintro i σ' H' hi ⟨a, m, x3, rfl, s1, hl, hA⟩
      obtain ⟨x, hx, ex⟩ := pickm ABC m (by decide)
      fail "go"
      refine ⟨x, ex, ?_⟩
      fail "go"
      refine ⟨by simp [hl], fun y hy => ?_⟩
      rcases List.mem_append.mp hy with h | h
      · exact hA y h
      · rw [List.mem_singleton.mp h]; exact hx
    · rintro σ' H' ⟨a, m, x3, rfl, s1, hl, hA⟩
      fail "go"
      exact q a ⟨by omega, by omega, hA⟩ _ s1

abbrev s_law_more : Stmt := top 22
theorem sc_law_more : FnScope ["_law_words_here", "_law_cell", "_law_signs_here", "_law_one", "_law_other", "_law_at_here", "_law_some"] ["_law_words_here", "_law_cell", "_law_signs_here"] (defScope s_law_more) := ⟨rfl, rfl, rfl, by decide +kernel, rfl, by decide +kernel, by decide +kernel⟩
def sp_law_more : Sp := fun vs H Q _ => ∃ (p : Addr) (c : Int) (g : Wd), vs = [.ref p, .int c, sv g] ∧ ∃ ws : List Wd, H p = some (.lst (ws.map sv)) ∧ ws ≠ [] ∧ (∀ w ∈ ws, Word w) ∧ g ≠ [] ∧ g.length ≤ 26 ∧ Abc g ∧ ∀ a : Wd, Word a → Ret H Q (sv a)
theorem ok_law_more (B : Bi mg) (D : Def K mg "_law_more" s_law_more) (c_law_word : Cal P w K mg base CX0 "_law_word" 2 ["_law_cell", "_law_signs_here"] sp_law_word) : Cal P w K mg base CX0 "_law_more" 3 ["_law_words_here", "_law_cell", "_law_signs_here"] sp_law_more := by
  have nd := sc_law_more.nd
  refine D.cal sc_law_more (fun _ _ _ _ _ _ us hl => match us, hl with | [_, _, _], _ => rfl) (fun vs H Q E h => ?_) (fun f cdv A outer s H vs Q E hr h => ?_)
  · obtain ⟨_, _, _, rfl, _⟩ := h
    rfl
  · obtain ⟨p, c, g, rfl, ws, hp, hn, hw, hg, hgl, hA, q⟩ := h
    refine ⟨_, PSs.nox (pss_cons (ps_set (i := 3) nd rfl (.inl rfl) (pe_ix (r := rIxLn K) ix_l (pv 0) (pe_op op_mod (pe_op op_fdiv (pv 1) pe_int) (pe_callB (r := rLenL K) call_lenl (by rfl) B.len PySem.boot_len (pa_cons (pv 0) pa_nil))) (fun _ _ => rfl)))
      (pss_cons (ps_set (i := 4) nd rfl (.inl rfl) (pe_ix (r := rIxLn K) ix_l (pv 0) (pe_op op_mod (pe_op op_fdiv (pv 1) pe_int) (pe_callB (r := rLenL K) call_lenl (by rfl) B.len PySem.boot_len (pa_cons (pv 0) pa_nil))) (fun _ _ => rfl)))
      (pss_cons (ps_set (i := 5) nd rfl (.inl rfl) (pe_op op_mod (pe_op op_fdiv (pv 1) pe_int) (pe_callB call_lenw (by rfl) B.len PySem.boot_len (pa_cons (pv 3) pa_nil))))
      (pss_cons (ps_set (i := 6) nd rfl (.inl rfl) (pe_lst (pa_cons (pe_op op_addw (pv 3) (pv 4)) (pa_cons (pe_op op_addw (pv 3) (pv 4)) (pa_cons (pe_op op_addw (pv 4) (pv 3)) (pa_cons (pe_op op_addw (pv 3) (pe_cal c_law_word hr (pa_cons (pe_op op_fdiv (pv 1) pe_int) (pa_cons (pv 2) pa_nil)))) (pa_cons (pe_op op_addw (pe_cal c_law_word hr (pa_cons (pe_op op_fdiv (pv 1) pe_int) (pa_cons (pv 2) pa_nil))) (pv 3)) pa_nil)))))))
      (pss_one (ps_ret (pe_slice (r := rSlW) sl_w (pe_ix (r := rIxLn K) ix_l (pe_op op_catl (pv 6) (pe_lst (pa_cons (pe_slice (r := rSlW) sl_w (pv 3) (po_some (pv 5)) po_none) (pa_cons (pe_slice (r := rSlW) sl_w (pv 3) po_none (po_some (pe_op op_add (pv 5) pe_int))) (pa_cons (pe_op op_addw (pe_slice (r := rSlW) sl_w (pv 3) (po_some (pv 5)) po_none) (pv 4)) pa_nil))))) (pe_op op_mod (pv 1) pe_int) (fun _ _ => rfl)) po_none (po_some pe_int)))))))), ?_⟩
    try dsimp only [cxOf, Cx.nox, Cx.wish]
    have hn' : ws.map sv ≠ [] := fun z => hn (List.map_eq_nil_iff.mp z)
    have hpos : 0 < (ws.map sv).length := List.length_pos_iff.mpr hn'
    fail "gi"
    refine ex_pickm hn' fun v1 h1 => ?_
    obtain ⟨one, m1, rfl⟩ := List.mem_map.mp h1
    have w1 := hw one m1
    have w1' := w1.1
    have w1'' := w1.2.1
    fail "gi"
    refine ex_pickm hn' fun v2 h2 => ?_
    obtain ⟨oth, m2, rfl⟩ := List.mem_map.mp h2
    have w2 := hw oth m2
    have w2' := w2.1
    have w2'' := w2.2.1
    fail "gi"
    intro u hu
    have u1 := hu.1
    have u2 := hu.2.1
    fail "gi"
    intro u' hu'
    have u1' := hu'.1
    have u2' := hu'.2.1
    have l0 := Int.emod_nonneg (c / 1352) (show (one.length : Int) ≠ 0 by omega)
    have l1 := Int.emod_lt_of_pos (c / 1352) (show (0 : Int) < one.length by omega)
    have k1 := cutW_len one (some (c / 1352 % (one.length : Int))) none
    fail "gi"
    refine ex_pick (Int.emod_nonneg _ (by decide)) (Int.emod_lt_of_pos _ (by decide)) fun v hv => ?_
    obtain ⟨a, rfl, hAa, ha1, ha2⟩ : ∃ a : Wd, v = sv a ∧ Abc a ∧ 1 ≤ a.length ∧ a.length ≤ 100 := by
      have a1 := w1.abc
      have a2 := w2.abc
      have k2 := cutW_len one none (some (c / 1352 % (one.length : Int) + 1))
      have k3 : 1 ≤ (cutW one (some (c / 1352 % (one.length : Int))) none).length := by
        rw [cutW_fromI one l0, List.length_drop]; omega
      have k4 : 1 ≤ (cutW one none (some (c / 1352 % (one.length : Int) + 1))).length := by
        rw [cutW_toI one (by omega), List.length_take]; omega
      simp only [List.mem_append, List.mem_cons, List.not_mem_nil, or_false] at hv
      rcases hv with (rfl | rfl | rfl | rfl | rfl) | rfl | rfl | rfl
      · exact ⟨_, rfl, a1.app a2, by rw [List.length_append]; omega, by rw [List.length_append]; omega⟩
      · exact ⟨_, rfl, a1.app a2, by rw [List.length_append]; omega, by rw [List.length_append]; omega⟩
      · exact ⟨_, rfl, a2.app a1, by rw [List.length_append]; omega, by rw [List.length_append]; omega⟩
      · exact ⟨_, rfl, a1.app hu.abc, by rw [List.length_append]; omega, by rw [List.length_append]; omega⟩
      · exact ⟨_, rfl, hu'.abc.app a1, by rw [List.length_append]; omega, by rw [List.length_append]; omega⟩
      · exact ⟨_, rfl, cutW_abc a1 _ _, k3, by omega⟩
      · exact ⟨_, rfl, cutW_abc a1 _ _, k4, by omega⟩
      · exact ⟨_, rfl, (cutW_abc a1 _ _).app a2, by rw [List.length_append]; omega, by rw [List.length_append]; omega⟩
    fail "gi"
    exact q _ (Word.cut hAa ha1 (by decide) (by decide)) _ (by fail "same")
theorem rot (W : List Wd) {i : Int} (h : 0 ≤ i) : cutV (W.map sv) (some i) none ++ cutV (W.map sv) none (some i) = (W.drop i.toNat ++ W.take i.toNat).map sv := by
  rw [cutV_fromI h, cutV_toI h, List.map_append, List.map_drop, List.map_take]
theorem rot_len (W : List Wd) {i : Int} (h : 0 ≤ i) : (cutV (W.map sv) (some i) none).length + (cutV (W.map sv) none (some i)).length = W.length := by
  rw [← List.length_append, rot W h, List.length_map, List.length_append, List.length_drop, List.length_take]; omega
theorem rot_mem {W : List Wd} {n : Nat} {w : Wd} (h : w ∈ W.drop n ++ W.take n) : w ∈ W := (List.mem_append.mp h).elim List.mem_of_mem_drop List.mem_of_mem_take
abbrev s_law_chain : Stmt := top 23
theorem sc_law_chain : FnScope ["_law_script", "_law_first", "_law_signs_here", "_law_links", "_law_k", "_law_words_here", "_law_turn"] ["_law_script", "_law_first", "_law_signs_here"] (defScope s_law_chain) := ⟨rfl, rfl, rfl, by decide +kernel, rfl, by decide +kernel, by decide +kernel⟩
def sp_law_chain (K : PySem.W.Frag) : Sp := fun vs H Q _ => ∃ (p : Addr) (k : Int) (g : Wd), vs = [.ref p, .int k, sv g] ∧ ∃ ns : List Int, SqL K H p (ns.map V.int) ∧ 0 ≤ k ∧ g ≠ [] ∧ g.length ≤ 26 ∧ Abc g ∧ ∀ ws : List Wd, ws ≠ [] → ws.length ≤ 10 → (∀ w ∈ ws, Word w) → RetL H Q (ws.map sv)
theorem ok_law_chain (B : Bi mg) (D : Def K mg "_law_chain" s_law_chain) (c_law_at : Cal P w K mg base CX0 "_law_at" 1 ["_law_script", "_law_k"] (sp_law_at K)) (c_law_mixed : Cal P w K mg base CX0 "_law_mixed" 1 ["_law_cell", "_law_k"] sp_law_mixed) (c_law_word : Cal P w K mg base CX0 "_law_word" 2 ["_law_cell", "_law_signs_here"] sp_law_word) : Cal P w K mg base CX0 "_law_chain" 3 ["_law_script", "_law_first", "_law_signs_here"] (sp_law_chain K) := by
  have nd := sc_law_chain.nd
  refine D.cal sc_law_chain (fun _ _ _ _ _ _ us hl => match us, hl with | [_, _, _], _ => rfl) (fun vs H Q E h => ?_) (fun f cdv A outer s H vs Q E hr h => ?_)
  · obtain ⟨_, _, _, rfl, _⟩ := h
    rfl
  · obtain ⟨p, k, g, rfl, ns, hS, hk, hg, hgl, hA, q⟩ := h
    refine ⟨_, PSs.nox (pss_cons (ps_set (i := 3) nd rfl (.inr rfl) (pe_lst pa_nil))
      (pss_cons (ps_for PassesOwn.never rfl (pi_range1 (by rfl) B.range (pa_cons (pe_op op_add pe_int (pe_op op_mod (pe_op op_fdiv (pe_cal c_law_at hr (pa_cons (pv 0) (pa_cons (pv 1) pa_nil))) pe_int) pe_int)) pa_nil)) (pg_name (i := 4) nd rfl (.inl rfl))
        (pss_one (ps_expr (pe_bm PySem.F.plainAttrs_list PySem.F.slot_list_append PySem.F.type_list_append mt_app (pv 3) (pa_cons (pe_slice (r := rSlW) sl_w (pe_cal c_law_word hr (pa_cons (pe_cal c_law_mixed hr (pa_cons (pe_cal c_law_at hr (pa_cons (pv 0) (pa_cons (pe_op op_add (pe_op op_add (pv 1) pe_int) (pe_op op_mod (pv 4) pe_int)) pa_nil))) (pa_cons (pv 4) pa_nil))) (pa_cons (pv 2) pa_nil))) po_none (po_some pe_int)) pa_nil)))))
      (pss_cons (ps_set (i := 5) nd rfl (.inl rfl) (pe_op op_catl (pe_lst (pa_cons (pe_ix (r := rIxLn K) ix_l (pv 3) pe_int (fun _ _ => rfl)) pa_nil)) (pe_lc (own := [("_law_k", 4)]) (g := gName 4) (tt := tYes) rfl nd (pi_range2 (by rfl) B.range (pa_cons pe_int (pa_cons (pe_callB (r := rLenL K) call_lenl (by rfl) B.len PySem.boot_len (pa_cons (pv 3) pa_nil)) pa_nil))) (blkOk_by (own := [("_law_k", 4)]) (N := ["_law_script", "_law_first", "_law_signs_here", "_law_links", "_law_k", "_law_words_here", "_law_turn"]) (sc := defScope s_law_chain) (by decide +kernel)) (fun _ _ _ _ _ => (pg_name (i := 4) nd rfl (.inl rfl))) (fun _ _ _ _ _ => pts_nil) (fun _ _ _ _ _ => (pe_op op_addw (pe_ix (r := rIxLn K) ix_l (pv 3) (pe_op op_sub (pv 4) pe_int) (fun _ _ => rfl)) (pe_ix (r := rIxLn K) ix_l (pv 3) (pv 4) (fun _ _ => rfl)))))))
      (pss_cons (ps_if (pt_cmpR op_eqn (pe_op op_mod (pe_op op_fdiv (pe_cal c_law_at hr (pa_cons (pv 0) (pa_cons (pv 1) pa_nil))) pe_int) pe_int) pe_int (nomark _))
        (pss_one (ps_expr (pe_bm PySem.F.plainAttrs_list PySem.F.slot_list_append PySem.F.type_list_append mt_app (pv 5) (pa_cons (pe_ix (r := rIxLm K) ix_lm (pv 3) (pe_un un_neg pe_int) (fun _ _ => rfl)) pa_nil))))
        pss_nil)
      (pss_cons (ps_set (i := 6) nd rfl (.inl rfl) (pe_op op_mod (pe_cal c_law_at hr (pa_cons (pv 0) (pa_cons (pe_op op_add (pv 1) pe_int) pa_nil))) (pe_callB (r := rLenL K) call_lenl (by rfl) B.len PySem.boot_len (pa_cons (pv 5) pa_nil))))
      (pss_one (ps_ret (pe_op op_catl (pe_slice (r := rSlLn K) sl_l (pv 5) (po_some (pv 6)) po_none) (pe_slice (r := rSlLn K) sl_l (pv 5) po_none (po_some (pv 6))))))))))), ?_⟩
    try dsimp only [cxOf, Cx.nox, Cx.wish]
    have c0 := Int.emod_nonneg (cell ns k / 40) (show (7 : Int) ≠ 0 by decide)
    have c1 := Int.emod_lt_of_pos (cell ns k / 40) (show (0 : Int) < 7 by decide)
    fail "gi"
    rename_i l hl
    refine for_range (fun i σ' H' => ∃ (ws : List Wd) (x4 : Option V), σ' = [some (.ref p), some (.int k), some (sv g), some (.ref l), x4, none, none] ∧ Same H H' ∧ H' l = some (.lst (ws.map sv)) ∧ ws.length = i ∧ ∀ w ∈ ws, Abc w ∧ 1 ≤ w.length ∧ w.length ≤ 5) ⟨[], none, rfl, new hl, upd_same, rfl, fun _ h => nomatch h⟩ ?_ ?_
    · rintro i σ' H' hi ⟨ws, x4, rfl, s1, hw, hn, hws⟩
      fail "gi"
      intro u hu
      have u1 := hu.1
      have u2 := hu.2.1
      have hm : (ws.map sv).length < 100000 := by rw [List.length_map]; omega
      fail "gi"
      refine ⟨ws ++ [cutW u none (some 5)], _, rfl, by fail "same", ?_, by rw [List.length_append]; simp [hn], ?_⟩
      · rw [upd_same, List.map_append]; rfl
      · intro w hw'
        rcases List.mem_append.mp hw' with h | h
        · exact hws w h
        · rw [List.mem_singleton.mp h, cutW_toI u (by decide)]
          exact ⟨hu.abc.take _, by rw [List.length_take]; omega, by rw [List.length_take]; omega⟩
    · rintro σ' H' ⟨ws, x4, rfl, s1, hw, hn, hws⟩
      have hn2 : ws.length = (2 + cell ns k / 40 % 7).toNat := hn
      have hlm : (ws.map sv).length = ws.length := List.length_map _
      obtain ⟨w0, r, rfl⟩ : ∃ w0 r, ws = w0 :: r := by
        cases ws with
        | nil => rw [List.length_nil] at hn2; omega
        | cons a b => exact ⟨a, b, rfl⟩
      rw [List.length_cons] at hn2
      fail "gi"
      rename_i p1 hp1 D hD
      have hget : ∀ i : Nat, i < r.length + 1 → ((w0 :: r).map sv)[i]? = some (sv ((w0 :: r).getD i [])) := fun i h => by
        rw [List.getElem?_map, List.getD_eq_getElem?_getD, List.getElem?_eq_getElem (by rw [List.length_cons]; omega)]; rfl
      have hgw : ∀ i : Nat, i < r.length + 1 → Abc ((w0 :: r).getD i []) ∧ 1 ≤ ((w0 :: r).getD i []).length ∧ ((w0 :: r).getD i []).length ≤ 5 := fun i h => by
        rw [List.getD_eq_getElem?_getD, List.getElem?_eq_getElem (by rw [List.length_cons]; omega)]
        exact hws _ (List.getElem_mem _)
      have hnn : ((((w0 :: r).map sv).length : Int) - 1).toNat = r.length := by simp
      refine lc_rng (lo := 1) (n := ((((w0 :: r).map sv).length : Int) - 1).toNat) (j := 4) (fun i => sv ((w0 :: r).getD i [] ++ (w0 :: r).getD (i + 1) [])) hD (by omega) (fun i hi H1 e1 Q1 q1 => ?_) (fun H1 e1 h1 => ?_)
      · have g1 : ((w0 :: r).map sv)[((1 + (i : Int)) - 1).toNat]? = some (sv ((w0 :: r).getD i [])) := by
          rw [show ((1 + (i : Int)) - 1).toNat = i by omega]; exact hget i (by omega)
        have g2 : ((w0 :: r).map sv)[(1 + (i : Int)).toNat]? = some (sv ((w0 :: r).getD (i + 1) [])) := by
          rw [show (1 + (i : Int)).toNat = i + 1 by omega]; exact hget _ (by omega)
        have b1 := (hgw i (by omega)).2.2
        have b2 := (hgw (i + 1) (by omega)).2.2
        fail "go"
        exact q1 _ (Same.refl _)
      · fail "go"
        rw [hnn] at h1 ⊢
        refine And.intro (by simp; omega) fun p2 hp2 => ?_
        have eW : [sv w0] ++ (List.range r.length).map (fun i => sv ((w0 :: r).getD i [] ++ (w0 :: r).getD (i + 1) [])) = (w0 :: (List.range r.length).map (fun i => (w0 :: r).getD i [] ++ (w0 :: r).getD (i + 1) [])).map sv := by
          rw [List.map_cons, List.map_map]; rfl
        rw [eW]
        have hW : ∀ x ∈ (w0 :: (List.range r.length).map (fun i => (w0 :: r).getD i [] ++ (w0 :: r).getD (i + 1) [])), Word x := fun x hx => by
          rcases List.mem_cons.mp hx with rfl | hx
          · have := hws x List.mem_cons_self
            exact ⟨this.2.1, by omega, this.1⟩
          · obtain ⟨i, hi, rfl⟩ := List.mem_map.mp hx
            rw [List.mem_range] at hi
            have a1 := hgw i (by omega)
            have a2 := hgw (i + 1) (by omega)
            exact ⟨by rw [List.length_append]; omega, by rw [List.length_append]; omega, a1.1.app a2.1⟩
        have hWl : (w0 :: (List.range r.length).map (fun i => (w0 :: r).getD i [] ++ (w0 :: r).getD (i + 1) [])).length = r.length + 1 := by simp
        have hL1 : H1 l = some (HO.lst ((w0 :: r).map sv)) := same_at e1 (new_at hp1 hw)
        have hlp : l ≠ p2 := fun z => by rw [z] at hL1; rw [hL1] at hp2; cases hp2
        generalize (w0 :: (List.range r.length).map (fun i => (w0 :: r).getD i [] ++ (w0 :: r).getD (i + 1) [])) = W at *
        have last : ∃ v, ((w0 :: r).map sv).getLast? = some (sv v) ∧ Word v := by
          refine ⟨(w0 :: r).getLast (List.cons_ne_nil _ _), ?_, ?_⟩
          · rw [List.getLast?_map, List.getLast?_eq_some_getLast (List.cons_ne_nil _ _)]; rfl
          · have := hws _ (List.getLast_mem (List.cons_ne_nil w0 r))
            exact ⟨this.2.1, by omega, this.1⟩
        obtain ⟨v, hv, wv⟩ := last
        have wl : (W.map sv).length < 100000 := by rw [List.length_map]; omega
        fail "gi"
        refine itd (fun e => ?_) fun e => ?_
        · fail "gi"
          rw [show W.map sv ++ [sv v] = (W ++ [v]).map sv by rw [List.map_append]; rfl]
          have hW2 : ∀ x ∈ W ++ [v], Word x := fun x hx => by
            rcases List.mem_append.mp hx with h | h
            · exact hW x h
            · rw [List.mem_singleton.mp h]; exact wv
          have wl2 : (W ++ [v]).length = r.length + 2 := by rw [List.length_append, hWl]; rfl
          generalize W ++ [v] = W2 at *
          have wl3 : 0 < (W2.map sv).length := by rw [List.length_map]; omega
          fail "gi"
          have i0 := Int.emod_nonneg (cell ns (k + 2)) (show ((W2.map sv).length : Int) ≠ 0 by omega)
          refine And.intro (by rw [rot_len W2 i0]; omega) fun p5 hp5 => ?_
          rw [rot W2 i0]
          refine q _ ?_ ?_ (fun w hw => hW2 w (rot_mem hw)) _ _ (by fail "same") (by fail "fr") upd_same
          · intro z
            have := congrArg List.length z
            rw [List.length_append, List.length_drop, List.length_take, List.length_nil] at this
            omega
          · rw [List.length_append, List.length_drop, List.length_take]; omega
        · have wl3 : 0 < (W.map sv).length := by rw [List.length_map]; omega
          fail "gi"
          have i0 := Int.emod_nonneg (cell ns (k + 2)) (show ((W.map sv).length : Int) ≠ 0 by omega)
          refine And.intro (by rw [rot_len W i0]; omega) fun p5 hp5 => ?_
          rw [rot W i0]
          refine q _ ?_ ?_ (fun w hw => hW w (rot_mem hw)) _ _ (by fail "same") (by fail "fr") upd_same
          · intro z
            have := congrArg List.length z
            rw [List.length_append, List.length_drop, List.length_take, List.length_nil] at this
            omega
          · rw [List.length_append, List.length_drop, List.length_take]; omega

set_option hygiene false in
local macro_rules | `(tactic| fail "w1") => `(tactic| (
  refine itn (fun hx => ?_) fun hx => ?_
  · fail "gi"
    refine ⟨ws ++ [y], _, _, _, rfl, by fail "same", by rw [upd_same, List.map_append]; rfl, List.nodup_append.mpr ⟨a3, by simp, fun a ha b hb => by rw [List.mem_singleton.mp hb]; exact fun z => hx (z ▸ ha)⟩, by rw [List.length_append]; exact Nat.succ_le_succ a4, ?_⟩
    intro w hw
    rcases List.mem_append.mp hw with h | h
    · exact a5 w h
    · rw [List.mem_singleton.mp h]; exact hy
  · exact ⟨ws, _, _, _, rfl, by fail "same", by fail "look", a3, by omega, a5⟩))
abbrev s_law_words : Stmt := top 24
theorem sc_law_words : FnScope ["_law_script", "_law_first", "_law_cell", "_law_signs_here", "_law_words_here", "_law_word_here", "_law_k", "_law_one"] ["_law_script", "_law_first"] (defScope s_law_words) := ⟨rfl, rfl, rfl, by decide +kernel, rfl, by decide +kernel, by decide +kernel⟩
def sp_law_words (K : PySem.W.Frag) : Sp := fun vs H Q _ => ∃ (p : Addr) (k : Int), vs = [.ref p, .int k] ∧ ∃ ns : List Int, SqL K H p (ns.map V.int) ∧ 0 ≤ k ∧ ∀ ws : List Wd, Code ws → RetL H Q (ws.map sv)
theorem ok_law_words (B : Bi mg) (D : Def K mg "_law_words" s_law_words) (c_law_at : Cal P w K mg base CX0 "_law_at" 1 ["_law_script", "_law_k"] (sp_law_at K)) (c_law_signs : Cal P w K mg base CX0 "_law_signs" 1 ["_law_cell"] sp_law_signs) (c_law_chain : Cal P w K mg base CX0 "_law_chain" 3 ["_law_script", "_law_first", "_law_signs_here"] (sp_law_chain K)) (c_law_mixed : Cal P w K mg base CX0 "_law_mixed" 1 ["_law_cell", "_law_k"] sp_law_mixed) (c_law_word : Cal P w K mg base CX0 "_law_word" 2 ["_law_cell", "_law_signs_here"] sp_law_word) (c_law_any_word : Cal P w K mg base CX0 "_law_any_word" 1 ["_law_cell"] sp_law_any_word) (c_law_more : Cal P w K mg base CX0 "_law_more" 3 ["_law_words_here", "_law_cell", "_law_signs_here"] sp_law_more) : Cal P w K mg base CX0 "_law_words" 4 ["_law_script", "_law_first"] (sp_law_words K) := by
  have nd := sc_law_words.nd
  refine D.cal sc_law_words (fun _ _ _ _ _ _ us hl => match us, hl with | [_, _], _ => rfl) (fun vs H Q E h => ?_) (fun f cdv A outer s H vs Q E hr h => ?_)
  · obtain ⟨_, _, rfl, _⟩ := h
    rfl
  · obtain ⟨p, k, rfl, ns, hS, hk, q⟩ := h
    refine ⟨_, PSs.nox (pss_cons (ps_set (i := 2) nd rfl (.inl rfl) (pe_cal c_law_at hr (pa_cons (pv 0) (pa_cons (pv 1) pa_nil))))
      (pss_cons (ps_set (i := 3) nd rfl (.inl rfl) (pe_cal c_law_signs hr (pa_cons (pe_cal c_law_at hr (pa_cons (pv 0) (pa_cons (pe_op op_add (pv 1) pe_int) pa_nil))) pa_nil)))
      (pss_cons (ps_set (i := 4) nd rfl (.inl rfl) (pe_lst pa_nil))
      (pss_cons (ps_if (pt_cmpR op_eqn (pe_op op_mod (pe_op op_fdiv (pv 2) pe_int) pe_int) pe_int (nomark _))
        (pss_cons (ps_for PassesOwn.never rfl (pi_list (pe_cal c_law_chain hr (pa_cons (pv 0) (pa_cons (pv 1) (pa_cons (pv 3) pa_nil))))) (pg_name (i := 5) nd rfl (.inl rfl))
          (pss_one (ps_if (pt_cmpR (r := rInW K true) op_niw (pv 5) (pv 4) (by rfl))
            (pss_one (ps_expr (pe_bm PySem.F.plainAttrs_list PySem.F.slot_list_append PySem.F.type_list_append mt_app (pv 4) (pa_cons (pv 5) pa_nil))))
            pss_nil)))
        (pss_one (ps_ret (pv 4))))
        pss_nil)
      (pss_cons (ps_for PassesOwn.never rfl (pi_range1 (by rfl) B.range (pa_cons (pe_ix (r := rIxLn K) ix_l (pe_lst (pa_cons pe_int (pa_cons pe_int (pa_cons pe_int (pa_cons pe_int (pa_cons pe_int (pa_cons pe_int (pa_cons pe_int (pa_cons pe_int (pa_cons pe_int (pa_cons pe_int pa_nil))))))))))) (pe_op op_mod (pv 2) pe_int) (fun _ _ => rfl)) pa_nil)) (pg_name (i := 6) nd rfl (.inl rfl))
        (pss_cons (ps_set (i := 7) nd rfl (.inl rfl) (pe_cal c_law_at hr (pa_cons (pv 0) (pa_cons (pe_op op_add (pe_op op_add (pv 1) pe_int) (pe_op op_mod (pv 6) pe_int)) pa_nil))))
        (pss_cons (ps_set (i := 5) nd rfl (.inl rfl) (pe_cal c_law_word hr (pa_cons (pe_cal c_law_mixed hr (pa_cons (pv 7) (pa_cons (pv 6) pa_nil))) (pa_cons (pv 3) pa_nil))))
        (pss_cons (ps_if (pt_cmpR op_eqn (pe_op op_mod (pe_op op_fdiv (pv 2) pe_int) pe_int) pe_int (nomark _))
          (pss_one (ps_set (i := 5) nd rfl (.inl rfl) (pe_cal c_law_any_word hr (pa_cons (pe_op op_add (pv 7) (pv 6)) pa_nil))))
          (pss_one (ps_if (PW.pt (pw_and (pt_cmpR (r := rNeP K) (op_nep hr.units) (pv 4) (pe_lst pa_nil) (nomark _)) (pw_and1 (pt_cmpR op_eqn (pe_op op_mod (pe_op op_fdiv (pe_cal c_law_mixed hr (pa_cons (pv 7) (pa_cons (pv 6) pa_nil))) pe_int) pe_int) pe_int (nomark _)))))
            (pss_one (ps_set (i := 5) nd rfl (.inl rfl) (pe_cal c_law_more hr (pa_cons (pv 4) (pa_cons (pe_cal c_law_mixed hr (pa_cons (pv 7) (pa_cons (pe_op op_add (pv 6) pe_int) pa_nil))) (pa_cons (pv 3) pa_nil))))))
            pss_nil)))
        (pss_one (ps_if (pt_cmpR (r := rInW K true) op_niw (pv 5) (pv 4) (by rfl))
          (pss_one (ps_expr (pe_bm PySem.F.plainAttrs_list PySem.F.slot_list_append PySem.F.type_list_append mt_app (pv 4) (pa_cons (pv 5) pa_nil))))
          pss_nil))))))
      (pss_one (ps_ret (pv 4)))))))), ?_⟩
    try dsimp only [cxOf, Cx.nox, Cx.wish]
    fail "gi"
    intro g hg hgl hA
    fail "gi"
    rename_i H1 s1 l hl
    refine itd (fun e => ?_) fun e => ?_
    · fail "gi"
      intro cs hc hcl hcw
      fail "gi"
      rename_i pc H2 s2 np hpc
      have ne : pc ≠ l := by fail "ne"
      refine for_wl (xs := cs) (j := 5) (fun pre σ' H' => ∃ (ws : List Wd) (x5 : Option V), σ' = [some (.ref p), some (.int k), some (.int (cell ns k)), some (sv g), some (.ref l), x5, none, none] ∧ Same H H' ∧ H' pc = some (.lst (cs.map sv)) ∧ H' l = some (.lst (ws.map sv)) ∧ ws.Nodup ∧ ws.length ≤ pre.length ∧ ∀ w ∈ ws, w ∈ pre) ⟨[], none, rfl, by fail "same", hpc, same_at s2 upd_same, List.nodup_nil, Nat.zero_le _, fun _ h => nomatch h⟩ ?_ ?_ ?_
      · rintro pre σ' H' ⟨ws, x5, rfl, a1, a2, a3, a4, a5, a6⟩
        exact SqL.of a2
      · rintro pre x post σ' H' ex ⟨ws, x5, rfl, a1, a2, a3, a4, a5, a6⟩
        have hxl : cs.length = pre.length + (post.length + 1) := by rw [ex, List.length_append, List.length_cons]
        have hm : (ws.map sv).length < 100000 := by rw [List.length_map]; omega
        fail "gi"
        refine itn (fun hx => ?_) fun hx => ?_
        · fail "gi"
          refine ⟨ws ++ [x], _, rfl, by fail "same", by fail "look", ?_, ?_, ?_, ?_⟩
          · rw [upd_same, List.map_append]; rfl
          · exact List.nodup_append.mpr ⟨a4, by simp, fun a ha b hb => by rw [List.mem_singleton.mp hb]; exact fun z => hx (z ▸ ha)⟩
          · rw [List.length_append, List.length_append]; exact Nat.succ_le_succ a5
          · intro w hw
            rcases List.mem_append.mp hw with h | h
            · exact List.mem_append_left _ (a6 w h)
            · exact List.mem_append_right _ h
        · exact ⟨ws, _, rfl, a1, a2, a3, a4, by rw [List.length_append]; omega, fun w hw => List.mem_append_left _ (a6 w hw)⟩
      · rintro σ' H' ⟨ws, x5, rfl, a1, a2, a3, a4, a5, a6⟩
        fail "gi"
        exact q ws ⟨a4, by omega, fun w hw => hcw w (a6 w hw)⟩ _ _ a1 (by fail "fr") a3
    · fail "gi"
      refine ex_pick (Int.emod_nonneg _ (by decide)) (Int.emod_lt_of_pos _ (by decide)) fun v hv => ?_
      obtain ⟨n, rfl, hn0, hn⟩ : ∃ n : Int, v = .int n ∧ 0 ≤ n ∧ n ≤ 12 := by
        simp only [List.mem_append, List.mem_cons, List.not_mem_nil, or_false] at hv
        rcases hv with rfl | rfl | rfl | rfl | rfl | rfl | rfl | rfl | rfl | rfl <;> exact ⟨_, rfl, by decide, by decide⟩
      fail "gi"
      refine for_range (fun i σ' H' => ∃ (ws : List Wd) (x5 x6 x7 : Option V), σ' = [some (.ref p), some (.int k), some (.int (cell ns k)), some (sv g), some (.ref l), x5, x6, x7] ∧ Same H H' ∧ H' l = some (.lst (ws.map sv)) ∧ ws.Nodup ∧ ws.length ≤ i ∧ ∀ w ∈ ws, Word w) ⟨[], none, none, none, rfl, by fail "same", by fail "look", List.nodup_nil, Nat.zero_le _, fun _ h => nomatch h⟩ ?_ ?_
      · rintro i σ' H' hi ⟨ws, x5, x6, x7, rfl, a1, a2, a3, a4, a5⟩
        have hm : (ws.map sv).length < 100000 := by rw [List.length_map]; omega
        have ho := ok_strs ws
        have hoe : okD (.list []) = true := rfl
        fail "gi"
        intro y hy
        fail "gi"
        refine itd (fun e1 => ?_) fun e1 => ?_
        · fail "gi"
          intro y hy
          fail "gi"
          fail "w1"
        · fail "gi"
          rw [show (PyData.list []) = PyData.list (([] : List Wd).map sd) from rfl, eqv_strs]
          refine itn (fun e2 => ?_) fun e2 => ?_
          · fail "gi"
            refine itd (fun e3 => ?_) fun e3 => ?_
            · fail "gi"
              intro y hy
              fail "gi"
              fail "w1"
            · fail "gi"
              fail "w1"
          · fail "gi"
            fail "w1"
      · rintro σ' H' ⟨ws, x5, x6, x7, rfl, a1, a2, a3, a4, a5⟩
        fail "gi"
        exact q ws ⟨a3, by omega, a5⟩ _ _ a1 (by fail "fr") a2

abbrev s_law_row : Stmt := top 25
theorem sc_law_row : FnScope ["_law_script", "_law_first", "_law_words_here", "_law_most", "_law_row_here", "_law_k"] ["_law_script", "_law_first", "_law_words_here", "_law_most"] (defScope s_law_row) := ⟨rfl, rfl, rfl, by decide +kernel, rfl, by decide +kernel, by decide +kernel⟩
def sp_law_row (K : PySem.W.Frag) : Sp := fun vs H Q _ => ∃ (p : Addr) (k : Int) (lw : Addr) (m : Int), vs = [.ref p, .int k, .ref lw, .int m] ∧ ∃ ns : List Int, SqL K H p (ns.map V.int) ∧ ∃ ws : List Wd, H lw = some (.lst (ws.map sv)) ∧ 0 ≤ k ∧ 0 ≤ m ∧ m ≤ 100 ∧ ∀ rs : List Wd, (rs.length : Int) ≤ m → (∀ r ∈ rs, r ∈ ws) → RetL H Q (rs.map sv)
theorem ok_law_row (B : Bi mg) (D : Def K mg "_law_row" s_law_row) (c_law_at : Cal P w K mg base CX0 "_law_at" 1 ["_law_script", "_law_k"] (sp_law_at K)) (c_law_mixed : Cal P w K mg base CX0 "_law_mixed" 1 ["_law_cell", "_law_k"] sp_law_mixed) : Cal P w K mg base CX0 "_law_row" 2 ["_law_script", "_law_first", "_law_words_here", "_law_most"] (sp_law_row K) := by
  have nd := sc_law_row.nd
  refine D.cal sc_law_row (fun _ _ _ _ _ _ us hl => match us, hl with | [_, _, _, _], _ => rfl) (fun vs H Q E h => ?_) (fun f cdv A outer s H vs Q E hr h => ?_)
  · obtain ⟨_, _, _, _, rfl, _⟩ := h
    rfl
  · obtain ⟨p, k, lw, m, rfl, ns, hS, ws, hw, hk, hm0, hm, q⟩ := h
    refine ⟨_, PSs.nox (pss_cons (ps_set (i := 4) nd rfl (.inl rfl) (pe_lst pa_nil))
      (pss_cons (ps_if (pt_cmpR (r := rNeP K) (op_nep hr.units) (pv 2) (pe_lst pa_nil) (nomark _))
        (pss_one (ps_for PassesOwn.never rfl (pi_range1 (by rfl) B.range (pa_cons (pe_op op_mod (pe_cal c_law_at hr (pa_cons (pv 0) (pa_cons (pv 1) pa_nil))) (pe_op op_add (pv 3) pe_int)) pa_nil)) (pg_name (i := 5) nd rfl (.inl rfl))
          (pss_one (ps_expr (pe_bm PySem.F.plainAttrs_list PySem.F.slot_list_append PySem.F.type_list_append mt_app (pv 4) (pa_cons (pe_ix (r := rIxLn K) ix_l (pv 2) (pe_op op_mod (pe_op op_fdiv (pe_cal c_law_mixed hr (pa_cons (pe_cal c_law_at hr (pa_cons (pv 0) (pa_cons (pe_op op_add (pe_op op_add (pv 1) pe_int) (pe_op op_mod (pv 5) pe_int)) pa_nil))) (pa_cons (pv 5) pa_nil))) pe_int) (pe_callB (r := rLenL K) call_lenl (by rfl) B.len PySem.boot_len (pa_cons (pv 2) pa_nil))) (fun _ _ => rfl)) pa_nil))))))
        pss_nil)
      (pss_one (ps_ret (pv 4))))), ?_⟩
    try dsimp only [cxOf, Cx.nox, Cx.wish]
    have ho := ok_strs ws
    have hoe : okD (.list []) = true := rfl
    have c0 := Int.emod_nonneg (cell ns k) (show m + 1 ≠ 0 by omega)
    have c1 := Int.emod_lt_of_pos (cell ns k) (show 0 < m + 1 by omega)
    fail "gi"
    rw [show (PyData.list []) = PyData.list (([] : List Wd).map sd) from rfl, eqv_strs]
    rename_i l hl _ _
    refine itn (fun e2 => ?_) fun e2 => ?_
    · have hn' : ws.map sv ≠ [] := fun z => e2 (List.map_eq_nil_iff.mp z)
      have hpos : 0 < (ws.map sv).length := List.length_pos_iff.mpr hn'
      fail "gi"
      have nl : l ≠ lw := ne_free hl hw
      have nl' := nl.symm
      refine for_range (fun i σ' H' => ∃ (rs : List Wd) (x5 : Option V), σ' = [some (.ref p), some (.int k), some (.ref lw), some (.int m), some (.ref l), x5] ∧ Same H H' ∧ H' l = some (.lst (rs.map sv)) ∧ rs.length = i ∧ ∀ r ∈ rs, r ∈ ws) ⟨[], none, rfl, by fail "same", by fail "look", rfl, fun _ h => nomatch h⟩ ?_ ?_
      · rintro i σ' H' hi ⟨rs, x5, rfl, a1, a2, a3, a4⟩
        have hm : (rs.map sv).length < 100000 := by rw [List.length_map]; omega
        fail "gi"
        refine ex_pickm hn' fun v hv => ?_
        obtain ⟨y, hy, rfl⟩ := List.mem_map.mp hv
        fail "gi"
        refine ⟨rs ++ [y], _, rfl, by fail "same", by fail "look", by rw [List.length_append, a3]; rfl, ?_⟩
        intro w hw
        rcases List.mem_append.mp hw with h | h
        · exact a4 w h
        · rw [List.mem_singleton.mp h]; exact hy
      · rintro σ' H' ⟨rs, x5, rfl, a1, a2, a3, a4⟩
        fail "gi"
        exact q rs (by omega) a4 _ _ a1 (by fail "fr") a2
    · fail "gi"
      exact q [] (by exact hm0) (fun _ h => nomatch h) _ _ (by fail "same") (by fail "fr") (by fail "look")
abbrev s_law_text : Stmt := top 26
theorem sc_law_text : FnScope ["_law_script", "_law_first", "_law_words_here", "_law_text_here", "_law_cell", "_law_at_here", "_law_sign", "_law_some"] ["_law_script", "_law_first", "_law_words_here"] (defScope s_law_text) := ⟨rfl, rfl, rfl, by decide +kernel, rfl, by decide +kernel, by decide +kernel⟩
theorem flat_len {B : Nat} : ∀ {rs : List Wd}, (∀ r ∈ rs, r.length ≤ B) → rs.flatten.length ≤ rs.length * B
  | [], _ => Nat.zero_le _
  | r :: rs, h => by
    have h1 := h r List.mem_cons_self
    have h2 := flat_len (B := B) (rs := rs) fun x hx => h x (List.mem_cons_of_mem _ hx)
    rw [List.flatten_cons, List.length_append, List.length_cons, Nat.succ_mul]
    omega
theorem flat_abc {rs : List Wd} (h : ∀ r ∈ rs, Abc r) : Abc rs.flatten := fun c hc => by
  obtain ⟨r, hr, h2⟩ := List.mem_flatten.mp hc
  exact h r hr c h2
def sp_law_text (K : PySem.W.Frag) : Sp := fun vs H Q _ => ∃ (p : Addr) (k : Int) (lw : Addr), vs = [.ref p, .int k, .ref lw] ∧ ∃ ns : List Int, SqL K H p (ns.map V.int) ∧ ∃ ws : List Wd, H lw = some (.lst (ws.map sv)) ∧ 0 ≤ k ∧ Code ws ∧ ∀ t : Wd, t.length ≤ 81 → Abc t → Ret H Q (sv t)
theorem ok_law_text (B : Bi mg) (D : Def K mg "_law_text" s_law_text) (c_law_row : Cal P w K mg base CX0 "_law_row" 2 ["_law_script", "_law_first", "_law_words_here", "_law_most"] (sp_law_row K)) (c_law_at : Cal P w K mg base CX0 "_law_at" 1 ["_law_script", "_law_k"] (sp_law_at K)) : Cal P w K mg base CX0 "_law_text" 3 ["_law_script", "_law_first", "_law_words_here"] (sp_law_text K) := by
  have nd := sc_law_text.nd
  refine D.cal sc_law_text (fun _ _ _ _ _ _ us hl => match us, hl with | [_, _, _], _ => rfl) (fun vs H Q E h => ?_) (fun f cdv A outer s H vs Q E hr h => ?_)
  · obtain ⟨_, _, _, rfl, _⟩ := h
    rfl
  · obtain ⟨p, k, lw, rfl, ns, hS, ws, hw, hk, hc, q⟩ := h
    refine ⟨_, PSs.nox (pss_cons (ps_set (i := 3) nd rfl (.inl rfl) (pe_m1 (r := rJoW K) PySem.F.slot_str_join PySem.F.type_str_join mt_jow (pe_w [] rfl) (pe_cal c_law_row hr (pa_cons (pv 0) (pa_cons (pv 1) (pa_cons (pv 2) (pa_cons pe_int pa_nil)))))))
      (pss_cons (ps_set (i := 4) nd rfl (.inl rfl) (pe_cal c_law_at hr (pa_cons (pv 0) (pa_cons (pe_op op_add (pv 1) pe_int) pa_nil))))
      (pss_cons (ps_set (i := 5) nd rfl (.inl rfl) (pe_op op_mod (pe_op op_fdiv (pv 4) pe_int) (pe_op op_add (pe_callB call_lenw (by rfl) B.len PySem.boot_len (pa_cons (pv 3) pa_nil)) pe_int)))
      (pss_cons (ps_set (i := 6) nd rfl (.inl rfl) (pe_ix ix_w (pe_m1 (r := rJoW K) PySem.F.slot_str_join PySem.F.type_str_join mt_jow (pe_w [] rfl) (pe_op op_catl (pv 2) (pe_lst (pa_cons (pe_w [113] rfl) pa_nil)))) (pe_op op_mod (pe_op op_fdiv (pv 4) pe_int) (pe_callB call_lenw (by rfl) B.len PySem.boot_len (pa_cons (pe_m1 (r := rJoW K) PySem.F.slot_str_join PySem.F.type_str_join mt_jow (pe_w [] rfl) (pe_op op_catl (pv 2) (pe_lst (pa_cons (pe_w [113] rfl) pa_nil)))) pa_nil))) (fun _ _ => rfl)))
      (pss_cons (ps_set (i := 7) nd rfl (.inl rfl) (pe_lst (pa_cons (pv 3) (pa_cons (pv 3) (pa_cons (pv 3) (pa_cons (pv 3) (pa_cons (pe_op op_addw (pe_op op_addw (pe_slice (r := rSlW) sl_w (pv 3) po_none (po_some (pv 5))) (pv 6)) (pe_slice (r := rSlW) sl_w (pv 3) (po_some (pv 5)) po_none)) (pa_cons (pe_op op_addw (pe_slice (r := rSlW) sl_w (pv 3) po_none (po_some (pv 5))) (pe_slice (r := rSlW) sl_w (pv 3) (po_some (pe_op op_add (pv 5) pe_int)) po_none)) (pa_cons (pe_slice (r := rSlW) sl_w (pv 3) po_none (po_some (pv 5))) pa_nil)))))))))
      (pss_one (ps_ret (pe_ix (r := rIxLn K) ix_l (pe_op op_catl (pv 7) (pe_lst (pa_cons (pe_op op_addw (pe_op op_addw (pe_slice (r := rSlW) sl_w (pv 3) po_none (po_some (pv 5))) (pv 6)) (pe_slice (r := rSlW) sl_w (pv 3) (po_some (pe_op op_add (pv 5) pe_int)) po_none)) pa_nil))) (pe_op op_mod (pv 4) pe_int) (fun _ _ => rfl))))))))), ?_⟩
    try dsimp only [cxOf, Cx.nox, Cx.wish]
    fail "gi"
    intro rs hrl hrs
    have f1 : rs.flatten.length ≤ rs.length * 10 := flat_len fun r h => (hc.wd r (hrs r h)).2.1
    have f2 : Abc rs.flatten := flat_abc fun r h => (hc.wd r (hrs r h)).abc
    have f3 : (ws ++ [[113]]).flatten.length ≤ (ws ++ [[113]]).length * 10 := flat_len fun r h => (List.mem_append.mp h).elim (fun h => (hc.wd r h).2.1) fun h => by rw [List.mem_singleton.mp h]; decide
    have f4 : Abc (ws ++ [[113]]).flatten := flat_abc fun r h => (List.mem_append.mp h).elim (fun h => (hc.wd r h).abc) fun h => by rw [List.mem_singleton.mp h]; unfold Abc; decide
    have f5 : (ws ++ [[113]]).flatten ≠ [] := by simp
    have f6 : (ws ++ [[113]]).length ≤ 13 := by rw [List.length_append]; exact Nat.succ_le_succ hc.le
    have hcl := hc.le
    have f7 : 0 < (ws ++ [[113]]).flatten.length := List.length_pos_iff.mpr f5
    fail "gi"
    refine ex_pickm f5 fun x hx => ?_
    have hx' : Abc [x] := fun c hc => by rw [List.mem_singleton.mp hc]; exact f4 x hx
    generalize rs.flatten = t at *
    have i0 := Int.emod_nonneg (cell ns (k + 6) / 8) (show ((t.length : Int) + 1) ≠ 0 by omega)
    have i1 := Int.emod_lt_of_pos (cell ns (k + 6) / 8) (show (0 : Int) < (t.length : Int) + 1 by omega)
    have k1 := cutW_len t none (some (cell ns (k + 6) / 8 % ((t.length : Int) + 1)))
    have k2 := cutW_len t (some (cell ns (k + 6) / 8 % ((t.length : Int) + 1))) none
    have k3 := cutW_len t (some (cell ns (k + 6) / 8 % ((t.length : Int) + 1) + 1)) none
    have k4 : (cutW t none (some (cell ns (k + 6) / 8 % ((t.length : Int) + 1)))).length + (cutW t (some (cell ns (k + 6) / 8 % ((t.length : Int) + 1))) none).length = t.length := by
      rw [cutW_toI t i0, cutW_fromI t i0, List.length_take, List.length_drop]; omega
    have k5 : (cutW t none (some (cell ns (k + 6) / 8 % ((t.length : Int) + 1)))).length + (cutW t (some (cell ns (k + 6) / 8 % ((t.length : Int) + 1) + 1)) none).length ≤ t.length := by
      rw [cutW_toI t i0, cutW_fromI t (by omega), List.length_take, List.length_drop]; omega
    fail "gi"
    refine ex_pick (Int.emod_nonneg _ (by decide)) (Int.emod_lt_of_pos _ (by decide)) fun v hv => ?_
    obtain ⟨t', rfl, h1, h2⟩ : ∃ a : Wd, v = sv a ∧ a.length ≤ 81 ∧ Abc a := by
      simp only [List.mem_append, List.mem_cons, List.not_mem_nil, or_false] at hv
      have e1 := cutW_abc f2 none (some (cell ns (k + 6) / 8 % ((t.length : Int) + 1)))
      have e2 := cutW_abc f2 (some (cell ns (k + 6) / 8 % ((t.length : Int) + 1))) none
      have e3 := cutW_abc f2 (some (cell ns (k + 6) / 8 % ((t.length : Int) + 1) + 1)) none
      rcases hv with (rfl | rfl | rfl | rfl | rfl | rfl | rfl) | rfl
      · exact ⟨_, rfl, by omega, f2⟩
      · exact ⟨_, rfl, by omega, f2⟩
      · exact ⟨_, rfl, by omega, f2⟩
      · exact ⟨_, rfl, by omega, f2⟩
      · exact ⟨_, rfl, by simp only [List.length_append, List.length_cons, List.length_nil]; omega, (e1.app hx').app e2⟩
      · exact ⟨_, rfl, by simp only [List.length_append]; omega, e1.app e3⟩
      · exact ⟨_, rfl, by omega, e1⟩
      · exact ⟨_, rfl, by simp only [List.length_append, List.length_cons, List.length_nil]; omega, (e1.app hx').app e3⟩
    fail "gi"
    exact q t' h1 h2 _ (by fail "same")

def left (a b : Wd) : Option Wd := if b.isPrefixOf a = true then some (a.drop b.length) else none
abbrev s_left_of : Stmt := top 12
theorem sc_left_of : FnScope ["text", "other"] ["text", "other"] (defScope s_left_of) := ⟨rfl, rfl, rfl, by decide +kernel, rfl, by decide +kernel, by decide +kernel⟩
def sp_left_of : Sp := fun vs H Q _ => ∃ a b : Wd, vs = [sv a, sv b] ∧ a.length ≤ 100000 ∧ b.length ≤ 100000 ∧ Q (optv (left a b)) H
theorem ok_left_of (B : Bi mg) (D : Def K mg "left_of" s_left_of) : Cal P w K mg base CX0 "left_of" 1 ["text", "other"] sp_left_of := by
  have nd := sc_left_of.nd
  refine D.cal sc_left_of (fun _ _ _ _ _ _ us hl => match us, hl with | [_, _], _ => rfl) (fun vs H Q E h => ?_) (fun f cdv A outer s H vs Q E hr h => ?_)
  · obtain ⟨_, _, rfl, _⟩ := h
    rfl
  · obtain ⟨a, b, rfl, ha, hb, q⟩ := h
    refine ⟨_, PSs.nox (pss_cons (ps_if (pt_val (pe_m1 PySem.F.slot_str_startswith PySem.F.type_str_startswith mt_stw (pv 0) (pv 1)))
        (pss_one (ps_ret (pe_slice (r := rSlW) sl_w (pv 0) (po_some (pe_callB call_lenw (by rfl) B.len PySem.boot_len (pa_cons (pv 1) pa_nil))) po_none)))
        pss_nil)
      (pss_one (ps_ret pe_non))), ?_⟩
    try dsimp only [cxOf, Cx.nox, Cx.wish]
    unfold left at q
    fail "go"
    refine itb (fun e => ?_) fun e => ?_
    · rw [if_pos e] at q
      fail "go"
      rw [cutW_from]
      exact q
    · rw [if_neg (by rw [e]; decide)] at q
      exact q

/-! ### whether a text of the code begins so -/
/-- the places that are reached from the start by words -/
inductive Rch (ws : List Wd) (t : Wd) : Nat → Prop
  | zero : Rch ws t 0
  | step (i : Nat) (w : Wd) : Rch ws t i → i < t.length → w ∈ ws → (t.drop i).take w.length = w → Rch ws t (i + w.length)
def Beg (ws : List Wd) (t : Wd) : Prop := (∃ i, i < t.length ∧ Rch ws t i ∧ ∃ w ∈ ws, w.take (t.length - i) = t.drop i) ∨ Rch ws t t.length
/-- what is met when the places below i are done, and of the place i the words pre -/
def Met (ws : List Wd) (t : Wd) (i : Nat) (pre : List Wd) (j : Nat) : Prop := j = 0 ∨ (∃ i' w, i' < i ∧ Rch ws t i' ∧ w ∈ ws ∧ (t.drop i').take w.length = w ∧ j = i' + w.length) ∨ ∃ w, w ∈ pre ∧ (t.drop i).take w.length = w ∧ j = i + w.length
theorem rch_pos {ws : List Wd} (h1 : ∀ w ∈ ws, 1 ≤ w.length) {t : Wd} {i : Nat} (h : Rch ws t i) : i = 0 ∨ ∃ i' w, i' < i ∧ Rch ws t i' ∧ w ∈ ws ∧ (t.drop i').take w.length = w ∧ i = i' + w.length := by
  cases h with
  | zero => exact .inl rfl
  | step i' w a b c d => exact .inr ⟨i', w, by have := h1 w c; omega, a, c, d, rfl⟩
theorem met_self {ws : List Wd} (h1 : ∀ w ∈ ws, 1 ≤ w.length) {t : Wd} {i : Nat} (hi : i ≤ t.length) : Met ws t i [] i ↔ Rch ws t i := by
  constructor
  · rintro (h | ⟨i', w, a, b, c, d, e⟩ | ⟨w, a, _⟩)
    · rw [h]; exact .zero
    · rw [e]; exact .step i' w b (by omega) c d
    · cases a
  · intro h
    exact (rch_pos h1 h).elim .inl fun h => .inr (.inl h)
theorem met_zero {ws : List Wd} {t : Wd} {j : Nat} : Met ws t 0 [] j ↔ j = 0 := by
  constructor
  · rintro (h | ⟨i', w, a, _⟩ | ⟨w, a, _⟩)
    · exact h
    · omega
    · cases a
  · exact .inl
theorem met_snoc {ws : List Wd} {t : Wd} {i j : Nat} {pre : List Wd} {x : Wd} : Met ws t i (pre ++ [x]) j ↔ Met ws t i pre j ∨ ((t.drop i).take x.length = x ∧ j = i + x.length) := by
  constructor
  · rintro (h | h | ⟨w, a, b, c⟩)
    · exact .inl (.inl h)
    · exact .inl (.inr (.inl h))
    · rcases List.mem_append.mp a with a | a
      · exact .inl (.inr (.inr ⟨w, a, b, c⟩))
      · rw [List.mem_singleton.mp a] at b c; exact .inr ⟨b, c⟩
  · rintro ((h | h | ⟨w, a, b, c⟩) | ⟨b, c⟩)
    · exact .inl h
    · exact .inr (.inl h)
    · exact .inr (.inr ⟨w, List.mem_append_left _ a, b, c⟩)
    · exact .inr (.inr ⟨x, by simp, b, c⟩)
theorem met_done {ws : List Wd} {t : Wd} {i j : Nat} (r : Rch ws t i) : Met ws t i ws j ↔ Met ws t (i + 1) [] j := by
  constructor
  · rintro (h | ⟨i', w, a, b⟩ | ⟨w, a, b, c⟩)
    · exact .inl h
    · exact .inr (.inl ⟨i', w, by omega, b⟩)
    · exact .inr (.inl ⟨i, w, by omega, r, a, b, c⟩)
  · rintro (h | ⟨i', w, a, b, c, d, e⟩ | ⟨w, a, _⟩)
    · exact .inl h
    · by_cases z : i' = i
      · subst z; exact .inr (.inr ⟨w, c, d, e⟩)
      · exact .inr (.inl ⟨i', w, by omega, b, c, d, e⟩)
    · cases a
theorem met_skip {ws : List Wd} {t : Wd} {i j : Nat} (r : ¬ Rch ws t i) : Met ws t i [] j ↔ Met ws t (i + 1) [] j := by
  constructor
  · rintro (h | ⟨i', w, a, b⟩ | ⟨w, a, _⟩)
    · exact .inl h
    · exact .inr (.inl ⟨i', w, by omega, b⟩)
    · cases a
  · rintro (h | ⟨i', w, a, b, c⟩ | ⟨w, a, _⟩)
    · exact .inl h
    · by_cases z : i' = i
      · subst z; exact (r b).elim
      · exact .inr (.inl ⟨i', w, by omega, b, c⟩)
    · cases a
def NoEarly (ws : List Wd) (t : Wd) (i : Nat) : Prop := ∀ i', i' < i → Rch ws t i' → ∀ w ∈ ws, w.take (t.length - i') ≠ t.drop i'
theorem beg_end {ws : List Wd} {t : Wd} (h : NoEarly ws t t.length) : Beg ws t ↔ Rch ws t t.length := by
  constructor
  · rintro (⟨i, a, b, w, c, d⟩ | h)
    · exact (h i a b w c d).elim
    · exact h
  · exact .inr
theorem left_non (a b : Wd) : decide (optv (left a b) = V.non) = !decide (a.take b.length = b) := by
  unfold left
  by_cases h : a.take b.length = b
  · rw [if_pos (List.isPrefixOf_iff_prefix.mpr (List.prefix_iff_eq_take.mpr h.symm)), decide_eq_true h, decide_eq_false (by intro z; cases z)]; rfl
  · rw [if_neg (fun z => h (List.prefix_iff_eq_take.mp (List.isPrefixOf_iff_prefix.mp z)).symm), decide_eq_false h]; rfl
abbrev s_law_begins : Stmt := top 27
theorem sc_law_begins : FnScope ["_law_words_here", "_law_text_here", "_law_met", "_law_place", "_law_word_here"] ["_law_words_here", "_law_text_here"] (defScope s_law_begins) := ⟨rfl, rfl, rfl, by decide +kernel, rfl, by decide +kernel, by decide +kernel⟩
def sp_law_begins : Sp := fun vs H Q _ => ∃ (lw : Addr) (t : Wd), vs = [.ref lw, sv t] ∧ ∃ ws : List Wd, H lw = some (.lst (ws.map sv)) ∧ Code ws ∧ t.length ≤ 1000 ∧ ∀ b : Bool, (b = true ↔ Beg ws t) → Ret H Q (.bl b)
theorem ok_law_begins (B : Bi mg) (D : Def K mg "_law_begins" s_law_begins) : Cal P w K mg base CX0 "_law_begins" 2 ["_law_words_here", "_law_text_here"] sp_law_begins := by
  have nd := sc_law_begins.nd
  refine D.cal sc_law_begins (fun _ _ _ _ _ _ us hl => match us, hl with | [_, _], _ => rfl) (fun vs H Q E h => ?_) (fun f cdv A outer s H vs Q E hr h => ?_)
  · obtain ⟨_, _, rfl, _⟩ := h
    rfl
  · obtain ⟨lw, t, rfl, ws, hw, hc, ht, q⟩ := h
    refine ⟨_, PSs.nox (pss_cons (ps_set (i := 2) nd rfl (.inl rfl) (pe_lst (pa_cons pe_int pa_nil)))
      (pss_cons (ps_for PassesOwn.never rfl (pi_range1 (by rfl) B.range (pa_cons (pe_callB call_lenw (by rfl) B.len PySem.boot_len (pa_cons (pv 1) pa_nil)) pa_nil)) (pg_name (i := 3) nd rfl (.inl rfl))
        (pss_one (ps_if (pt_cmpR (r := rInN K false) op_inn (pv 3) (pv 2) (by rfl))
          (pss_one (ps_for PassesOwn.never rfl (pi_list (pv 0)) (pg_name (i := 4) nd rfl (.inl rfl))
            (pss_cons (ps_if (pt_cmpR op_eqw (pe_slice (r := rSlW) sl_w (pv 4) po_none (po_some (pe_op op_sub (pe_callB call_lenw (by rfl) B.len PySem.boot_len (pa_cons (pv 1) pa_nil)) (pv 3)))) (pe_slice (r := rSlW) sl_w (pv 1) (po_some (pv 3)) po_none) (nomark _))
              (pss_one (ps_ret pe_bl))
              pss_nil)
            (pss_one (ps_if (pt_cmpR op_eqw (pe_slice (r := rSlW) sl_w (pv 1) (po_some (pv 3)) (po_some (pe_op op_add (pv 3) (pe_callB call_lenw (by rfl) B.len PySem.boot_len (pa_cons (pv 4) pa_nil))))) (pv 4) (nomark _))
              (pss_one (ps_expr (pe_bm PySem.F.plainAttrs_list PySem.F.slot_list_append PySem.F.type_list_append mt_app (pv 2) (pa_cons (pe_op op_add (pv 3) (pe_callB call_lenw (by rfl) B.len PySem.boot_len (pa_cons (pv 4) pa_nil))) pa_nil))))
              pss_nil)))))
          pss_nil)))
      (pss_one (ps_ret (pe_cmpR (r := rInN K false) op_inn (pe_callB call_lenw (by rfl) B.len PySem.boot_len (pa_cons (pv 1) pa_nil)) (pv 2) (by rfl)))))), ?_⟩
    try dsimp only [cxOf, Cx.nox, Cx.wish]
    have h1 : ∀ w ∈ ws, 1 ≤ w.length := fun w h => (hc.wd w h).1
    have hwl := hc.le
    fail "gi"
    rename_i l hl
    have nl : lw ≠ l := (ne_free hl hw).symm
    refine for_range (fun i σ' H' => ∃ (M : List Int) (x3 x4 : Option V), σ' = [some (.ref lw), some (sv t), some (.ref l), x3, x4] ∧ Same H H' ∧ H' l = some (.lst (M.map V.int)) ∧ M.length ≤ 1 + 12 * i ∧ (∀ z : Int, z ∈ M ↔ ∃ j : Nat, z = j ∧ Met ws t i [] j) ∧ NoEarly ws t i) ⟨[0], none, none, rfl, by fail "same", upd_same, by simp, fun z => ?_, fun _ h => absurd h (Nat.not_lt_zero _)⟩ ?_ ?_
    · rw [List.mem_singleton]
      constructor
      · rintro rfl; exact ⟨0, rfl, .inl rfl⟩
      · rintro ⟨j, rfl, h⟩; rw [met_zero.mp h]; rfl
    · rintro i σ' H' hi ⟨M, x3, x4, rfl, a1, a2, a3, a4, a5⟩
      have hi' : i < t.length := by omega
      rw [show (0 : Int) + (i : Int) = ((i : Nat) : Int) by omega]
      have self := met_self h1 (ws := ws) (t := t) (i := i) (by omega)
      have mem : ((i : Nat) : Int) ∈ M ↔ Rch ws t i := by
        rw [a4, ← self]
        constructor
        · rintro ⟨j, e, h⟩
          have : i = j := by omega
          rw [← this] at h; exact h
        · intro h; exact ⟨i, rfl, h⟩
      fail "gi"
      refine itd (fun e1 => ?_) fun e1 => ?_
      · have r := mem.mp e1
        fail "gi"
        refine for_wl (xs := ws) (j := 4) (fun pre σ' H' => ∃ (M : List Int) (x4 : Option V), σ' = [some (.ref lw), some (sv t), some (.ref l), some (.int (i : Nat)), x4] ∧ Same H H' ∧ H' l = some (.lst (M.map V.int)) ∧ M.length ≤ 1 + 12 * i + pre.length ∧ (∀ z : Int, z ∈ M ↔ ∃ j : Nat, z = j ∧ Met ws t i pre j) ∧ ∀ w ∈ pre, w.take (t.length - i) ≠ t.drop i) ⟨M, x4, rfl, a1, a2, by simpa using a3, a4, fun _ h => nomatch h⟩ ?_ ?_ ?_
        · rintro pre σ' H' ⟨M, x4, rfl, b1, b2, b3, b4, b5⟩
          fail "seq"
        · rintro pre x post σ' H' ex ⟨M, x4, rfl, b1, b2, b3, b4, b5⟩
          have hxm : x ∈ ws := by rw [ex]; simp
          have hx := hc.wd x hxm
          have hx1 := hx.1
          have hx2 := hx.2.1
          have pl : pre.length ≤ 12 := by have := congrArg List.length ex; rw [List.length_append] at this; omega
          have ml : (M.map V.int).length < 100000 := by rw [List.length_map]; omega
          fail "gi"
          rw [cutW_toI x (by omega), cutW_from, show ((t.length : Int) - (i : Int)).toNat = t.length - i by omega]
          refine itd (fun e2 => ?_) fun e2 => ?_
          · fail "gi"
            exact q true ⟨fun _ => .inl ⟨i, hi', r, x, hxm, e2⟩, fun _ => rfl⟩ _ b1
          · fail "gi"
            rw [cutW_mid]
            have b5' : ∀ w ∈ pre ++ [x], w.take (t.length - i) ≠ t.drop i := fun w hw => by
              rcases List.mem_append.mp hw with h | h
              · exact b5 w h
              · rw [List.mem_singleton.mp h]; exact e2
            refine itd (fun e3 => ?_) fun e3 => ?_
            · fail "gi"
              refine ⟨M ++ [((i : Nat) : Int) + (x.length : Int)], _, rfl, by fail "same", by rw [upd_same, List.map_append]; rfl, by simp only [List.length_append, List.length_cons, List.length_nil]; omega, fun z => ?_, b5'⟩
              rw [List.mem_append, b4, List.mem_singleton]
              constructor
              · rintro (⟨j, e, h⟩ | e)
                · exact ⟨j, e, met_snoc.mpr (.inl h)⟩
                · exact ⟨i + x.length, by omega, met_snoc.mpr (.inr ⟨e3, rfl⟩)⟩
              · rintro ⟨j, e, h⟩
                rcases met_snoc.mp h with h | ⟨_, h⟩
                · exact .inl ⟨j, e, h⟩
                · exact .inr (by omega)
            · fail "gi"
              refine ⟨M, _, rfl, b1, b2, by simp only [List.length_append, List.length_cons, List.length_nil]; omega, fun z => ?_, b5'⟩
              rw [b4]
              constructor
              · rintro ⟨j, e, h⟩
                exact ⟨j, e, met_snoc.mpr (.inl h)⟩
              · rintro ⟨j, e, h⟩
                rcases met_snoc.mp h with h | ⟨h, _⟩
                · exact ⟨j, e, h⟩
                · exact (e3 h).elim
        · rintro σ' H' ⟨M, x4, rfl, b1, b2, b3, b4, b5⟩
          refine ⟨M, _, _, rfl, b1, b2, by omega, fun z => ?_, fun i' hi2 r2 => ?_⟩
          · rw [b4]
            exact ⟨fun ⟨j, e, h⟩ => ⟨j, e, (met_done r).mp h⟩, fun ⟨j, e, h⟩ => ⟨j, e, (met_done r).mpr h⟩⟩
          · by_cases z : i' = i
            · subst z; exact b5
            · exact a5 i' (by omega) r2
      · have r : ¬ Rch ws t i := fun z => e1 (mem.mpr z)
        fail "gi"
        refine ⟨M, _, _, rfl, a1, a2, by omega, fun z => ?_, fun i' hi2 r2 => ?_⟩
        · rw [a4]
          exact ⟨fun ⟨j, e, h⟩ => ⟨j, e, (met_skip r).mp h⟩, fun ⟨j, e, h⟩ => ⟨j, e, (met_skip r).mpr h⟩⟩
        · by_cases z : i' = i
          · subst z; exact (r r2).elim
          · exact a5 i' (by omega) r2
    · rintro σ' H' ⟨M, x3, x4, rfl, a1, a2, a3, a4, a5⟩
      rw [show ((t.length : Int)).toNat = t.length from rfl] at a4 a5
      fail "gi"
      refine q _ ?_ _ a1
      show decide ((t.length : Int) ∈ M) = true ↔ _
      rw [decide_eq_true_iff, beg_end a5, a4, ← met_self h1 (Nat.le_refl _)]
      constructor
      · rintro ⟨j, e, h⟩
        have : t.length = j := by omega
        rw [← this] at h; exact h
      · intro h; exact ⟨_, rfl, h⟩
abbrev s_begins : Stmt := top 14
theorem sc_begins : FnScope ["words", "text", "met", "place", "rest", "word"] ["words", "text"] (defScope s_begins) := ⟨rfl, rfl, rfl, by decide +kernel, rfl, by decide +kernel, by decide +kernel⟩
theorem ok_begins (B : Bi mg) (D : Def K mg "begins" s_begins) (c_left_of : Cal P w K mg base CX0 "left_of" 1 ["text", "other"] sp_left_of) : Cal P w K mg base CX0 "begins" 2 ["words", "text"] sp_law_begins := by
  have nd := sc_begins.nd
  refine D.cal sc_begins (fun _ _ _ _ _ _ us hl => match us, hl with | [_, _], _ => rfl) (fun vs H Q E h => ?_) (fun f cdv A outer s H vs Q E hr h => ?_)
  · obtain ⟨_, _, rfl, _⟩ := h
    rfl
  · obtain ⟨lw, t, rfl, ws, hw, hc, ht, q⟩ := h
    refine ⟨_, PSs.nox (pss_cons (ps_set (i := 2) nd rfl (.inl rfl) (pe_disp (pps_cons pe_int pe_bl pps_nil) (by rfl) (by rfl) (fun z => by cases z) (by decide)))
      (pss_cons (ps_for PassesOwn.never rfl (pi_range1 (by rfl) B.range (pa_cons (pe_callB call_lenw (by rfl) B.len PySem.boot_len (pa_cons (pv 1) pa_nil)) pa_nil)) (pg_name (i := 3) nd rfl (.inl rfl))
        (pss_one (ps_if (pt_cmp (pc_dinN (hu_of hr) (pv 3) (pv 2)))
          (pss_cons (ps_set (i := 4) nd rfl (.inl rfl) (pe_slice (r := rSlW) sl_w (pv 1) (po_some (pv 3)) po_none))
          (pss_one (ps_for PassesOwn.never rfl (pi_list (pv 0)) (pg_name (i := 5) nd rfl (.inl rfl))
            (pss_cons (ps_if (pt_cmpR op_notN (pe_cal c_left_of hr (pa_cons (pv 5) (pa_cons (pv 4) pa_nil))) pe_non (nomark _))
              (pss_one (ps_ret pe_bl))
              pss_nil)
            (pss_one (ps_if (pt_cmpR op_notN (pe_cal c_left_of hr (pa_cons (pv 4) (pa_cons (pv 5) pa_nil))) pe_non (nomark _))
              (pss_one (ps_dputN (hu_of hr) (pv 2) (pe_op op_add (pv 3) (pe_callB call_lenw (by rfl) B.len PySem.boot_len (pa_cons (pv 5) pa_nil))) pe_bl rfl))
              pss_nil))))))
          pss_nil)))
      (pss_one (ps_ret (pe_cmp (pc_dinN (hu_of hr) (pe_callB call_lenw (by rfl) B.len PySem.boot_len (pa_cons (pv 1) pa_nil)) (pv 2))))))), ?_⟩
    try dsimp only [cxOf, Cx.nox, Cx.wish]
    have h1 : ∀ w ∈ ws, 1 ≤ w.length := fun w h => (hc.wd w h).1
    have hwl := hc.le
    fail "gi"
    rename_i l hl
    have nl : lw ≠ l := (ne_free hl hw).symm
    refine ⟨[(.inl 0, .bl true)], rfl, by decide, ?_⟩
    rw [show mergeK [] [((.inl 0 : Key), V.bl true)] = [((.inl 0 : Key), V.bl true)] from rfl]
    fail "gi"
    refine for_range (fun i σ' H' => ∃ (M : List (Key × V)) (x3 x4 x5 : Option V), σ' = [some (.ref lw), some (sv t), some (.ref l), x3, x4, x5] ∧ Same H H' ∧ H' l = some (.dK M) ∧ M.length ≤ 1 + 12 * i ∧ (∀ z : Int, (valV M (.inl z)).isSome = true ↔ ∃ j : Nat, z = j ∧ Met ws t i [] j) ∧ NoEarly ws t i) ⟨_, none, none, none, rfl, by fail "same", upd_same, by decide, fun z => ?_, fun _ h => absurd h (Nat.not_lt_zero _)⟩ ?_ ?_
    · by_cases e : z = 0
      · subst e
        exact ⟨fun _ => ⟨0, rfl, .inl rfl⟩, fun _ => rfl⟩
      · have e' : ¬ (((.inl 0 : Key), V.bl true).1 = .inl z) := fun h => e (by injection h with h; exact h.symm)
        rw [valV_neg e', valV_nil]
        constructor
        · intro h; cases h
        · rintro ⟨j, rfl, h⟩; rw [met_zero.mp h] at e; exact (e rfl).elim
    · rintro i σ' H' hi ⟨M, x3, x4, x5, rfl, a1, a2, a3, a4, a5⟩
      have hi' : i < t.length := by omega
      rw [show (0 : Int) + (i : Int) = ((i : Nat) : Int) by omega]
      have self := met_self h1 (ws := ws) (t := t) (i := i) (by omega)
      have mem : (valV M (.inl ((i : Nat) : Int))).isSome = true ↔ Rch ws t i := by
        rw [a4, ← self]
        constructor
        · rintro ⟨j, e, h⟩
          have : i = j := by omega
          rw [← this] at h; exact h
        · intro h; exact ⟨i, rfl, h⟩
      fail "gi"
      refine itb (fun e1 => ?_) fun e1 => ?_
      · have r := mem.mp e1
        fail "gi"
        rw [cutW_from]
        fail "gi"
        refine for_wl (xs := ws) (j := 5) (fun pre σ' H' => ∃ (M : List (Key × V)) (x5 : Option V), σ' = [some (.ref lw), some (sv t), some (.ref l), some (.int (i : Nat)), some (sv (t.drop i)), x5] ∧ Same H H' ∧ H' l = some (.dK M) ∧ M.length ≤ 1 + 12 * i + pre.length ∧ (∀ z : Int, (valV M (.inl z)).isSome = true ↔ ∃ j : Nat, z = j ∧ Met ws t i pre j) ∧ ∀ w ∈ pre, w.take (t.length - i) ≠ t.drop i) ⟨M, x5, rfl, a1, a2, by simpa using a3, a4, fun _ h => nomatch h⟩ ?_ ?_ ?_
        · rintro pre σ' H' ⟨M, x5, rfl, b1, b2, b3, b4, b5⟩
          fail "seq"
        · rintro pre x post σ' H' ex ⟨M, x5, rfl, b1, b2, b3, b4, b5⟩
          have hxm : x ∈ ws := by rw [ex]; simp
          have hx := hc.wd x hxm
          have hx1 := hx.1
          have hx2 := hx.2.1
          have pl : pre.length ≤ 12 := by have := congrArg List.length ex; rw [List.length_append] at this; omega
          have ml : M.length < 100000 := by omega
          have dl : (t.drop i).length ≤ 100000 := by rw [List.length_drop]; omega
          have xl : x.length ≤ 100000 := by omega
          have hl1 : decide (optv (left x (t.drop i)) = V.non) = !decide (x.take (t.length - i) = t.drop i) := by rw [left_non, List.length_drop]
          have hl2 := left_non (t.drop i) x
          fail "gi"
          rw [hl1, Bool.not_not]
          refine itd (fun e2 => ?_) fun e2 => ?_
          · fail "gi"
            exact q true ⟨fun _ => .inl ⟨i, hi', r, x, hxm, e2⟩, fun _ => rfl⟩ _ b1
          · fail "gi"
            rw [hl2, Bool.not_not]
            have b5' : ∀ w ∈ pre ++ [x], w.take (t.length - i) ≠ t.drop i := fun w hw => by
              rcases List.mem_append.mp hw with h | h
              · exact b5 w h
              · rw [List.mem_singleton.mp h]; exact e2
            refine itd (fun e3 => ?_) fun e3 => ?_
            · fail "gi"
              refine ⟨_, _, rfl, by fail "same", upd_same, by have := length_putK M (.inl (((i : Nat) : Int) + (x.length : Int))) (V.bl true); simp only [List.length_append, List.length_cons, List.length_nil]; omega, fun z => ?_, b5'⟩
              rw [valV_put]
              by_cases ez : (.inl z : Key) = .inl (((i : Nat) : Int) + (x.length : Int))
              · rw [if_pos ez]
                exact ⟨fun _ => ⟨i + x.length, by have := Sum.inl.inj ez; omega, met_snoc.mpr (.inr ⟨e3, rfl⟩)⟩, fun _ => rfl⟩
              · rw [if_neg ez, b4]
                constructor
                · rintro ⟨j, e, h⟩
                  exact ⟨j, e, met_snoc.mpr (.inl h)⟩
                · rintro ⟨j, e, h⟩
                  rcases met_snoc.mp h with h | ⟨_, h⟩
                  · exact ⟨j, e, h⟩
                  · exact (ez (by rw [e, h, Int.natCast_add])).elim
            · fail "gi"
              refine ⟨M, _, rfl, b1, b2, by simp only [List.length_append, List.length_cons, List.length_nil]; omega, fun z => ?_, b5'⟩
              rw [b4]
              constructor
              · rintro ⟨j, e, h⟩
                exact ⟨j, e, met_snoc.mpr (.inl h)⟩
              · rintro ⟨j, e, h⟩
                rcases met_snoc.mp h with h | ⟨h, _⟩
                · exact ⟨j, e, h⟩
                · exact (e3 h).elim
        · rintro σ' H' ⟨M, x5, rfl, b1, b2, b3, b4, b5⟩
          refine ⟨M, _, _, _, rfl, b1, b2, by omega, fun z => ?_, fun i' hi2 r2 => ?_⟩
          · rw [b4]
            exact ⟨fun ⟨j, e, h⟩ => ⟨j, e, (met_done r).mp h⟩, fun ⟨j, e, h⟩ => ⟨j, e, (met_done r).mpr h⟩⟩
          · by_cases z : i' = i
            · subst z; exact b5
            · exact a5 i' (by omega) r2
      · have r : ¬ Rch ws t i := fun z => by rw [mem.mpr z] at e1; cases e1
        fail "gi"
        refine ⟨M, _, _, _, rfl, a1, a2, by omega, fun z => ?_, fun i' hi2 r2 => ?_⟩
        · rw [a4]
          exact ⟨fun ⟨j, e, h⟩ => ⟨j, e, (met_skip r).mp h⟩, fun ⟨j, e, h⟩ => ⟨j, e, (met_skip r).mpr h⟩⟩
        · by_cases z : i' = i
          · subst z; exact (r r2).elim
          · exact a5 i' (by omega) r2
    · rintro σ' H' ⟨M, x3, x4, x5, rfl, a1, a2, a3, a4, a5⟩
      rw [show ((t.length : Int)).toNat = t.length from rfl] at a4 a5
      fail "gi"
      refine q _ ?_ _ a1
      show (valV M (.inl (t.length : Int))).isSome = true ↔ _
      rw [beg_end a5, a4, ← met_self h1 (Nat.le_refl _)]
      constructor
      · rintro ⟨j, e, h⟩
        have : t.length = j := by omega
        rw [← this] at h; exact h
      · intro h; exact ⟨_, rfl, h⟩

/-! ### the program: words -/
instance (a : Wd) : Decidable (Word a) := (by unfold Word; exact inferInstanceAs (Decidable (1 ≤ a.length ∧ a.length ≤ 10 ∧ ∀ c ∈ a, c ∈ ABC)))
theorem Code.perm {zs ws : List Wd} (h : zs.Perm ws) (c : Code ws) : Code zs := ⟨h.nodup_iff.mpr c.nd, by rw [h.length_eq]; exact c.le, fun w hw => c.wd w (h.mem_iff.mp hw)⟩
abbrev s_is_word : Stmt := top 10
theorem sc_is_word : FnScope ["thing", "sign"] ["thing"] (defScope s_is_word) := ⟨rfl, rfl, rfl, by decide +kernel, rfl, by decide +kernel, by decide +kernel⟩
def sp_is_word : Sp := fun vs H Q _ => ∃ a : Wd, vs = [sv a] ∧ a.length ≤ 100000 ∧ Q (.bl (decide (Word a))) H
theorem ok_is_word (B : Bi mg) (G_MOST_SIGNS : ∃ t, mg "MOST_SIGNS" = some (.int 10 t)) (G_SIGNS : ∃ t, mg "SIGNS" = some (.str "abcdefghijklmnopqrstuvwxyz" t)) (D : Def K mg "is_word" s_is_word) : Cal P w K mg base CX0 "is_word" 1 ["thing"] sp_is_word := by
  have nd := sc_is_word.nd
  refine D.cal sc_is_word (fun _ _ _ _ _ _ us hl => match us, hl with | [_], _ => rfl) (fun vs H Q E h => ?_) (fun f cdv A outer s H vs Q E hr h => ?_)
  · obtain ⟨_, rfl, _⟩ := h
    rfl
  · obtain ⟨a, rfl, ha, q⟩ := h
    refine ⟨_, PSs.nox (pss_cons (ps_if (PW.pt (pw_or (pt_not (pt_val (pe_callB (call_is .str) (by rfl) B.isinstance (by decide +kernel) (pa_cons (pv 0) (pa_cons (pe_ty .str (by rfl) B.str (by decide +kernel)) pa_nil))))) (pw_or1 (pt_not (pt_chain op_le op_le pe_int (pe_callB call_lenw (by rfl) B.len PySem.boot_len (pa_cons (pv 0) pa_nil)) (pe_globi G_MOST_SIGNS rfl))))))
        (pss_one (ps_ret pe_bl))
        pss_nil)
      (pss_cons (ps_for PassesOwn.never rfl (pi_str (pv 0)) (pg_name (i := 1) nd rfl (.inl rfl))
        (pss_one (ps_if (pt_cmpR op_nig (pv 1) (pe_globw ABC rfl G_SIGNS rfl) (by rfl))
          (pss_one (ps_ret pe_bl))
          pss_nil)))
      (pss_one (ps_ret pe_bl)))), ?_⟩
    try dsimp only [cxOf, Cx.nox, Cx.wish]
    fail "gi"
    refine itd (fun e1 => ?_) fun e1 => ?_
    · fail "gi"
      refine itn (fun e2 => ?_) fun e2 => ?_
      · fail "gi"
        rw [decide_eq_false (fun z : Word a => e2 (by have := z.2.1; omega))] at q
        exact q
      · fail "gi"
        refine for_str (j := 1) (fun pre σ' H' => ∃ x1 : Option V, σ' = [some (sv a), x1] ∧ H' = H ∧ Abc pre) ⟨none, rfl, rfl, fun _ h => nomatch h⟩ ?_ ?_
        · rintro pre x post σ' H' ex ⟨x1, rfl, rfl, hA⟩
          fail "gi"
          refine itn (fun e3 => ?_) fun e3 => ?_
          · fail "gi"
            rw [decide_eq_false (fun z : Word a => e3 (z.abc x (by rw [ex]; simp)))] at q
            exact q
          · fail "gi"
            intro c hc
            rcases List.mem_append.mp hc with h | h
            · exact hA c h
            · rw [List.mem_singleton.mp h]; exact e3
        · rintro σ' H' ⟨x1, rfl, rfl, hA⟩
          fail "gi"
          rw [decide_eq_true (show Word a from ⟨by omega, by omega, hA⟩)] at q
          exact q
    · rw [decide_eq_false (fun z : Word a => e1 (by have := z.1; omega))] at q
      fail "gi"
      exact q
abbrev s_checked : Stmt := top 11
theorem sc_checked : FnScope ["words", "found", "word"] ["words"] (defScope s_checked) := ⟨rfl, rfl, rfl, by decide +kernel, rfl, by decide +kernel, by decide +kernel⟩
def sp_checked : Sp := fun vs H Q _ => ∃ p : Addr, vs = [.ref p] ∧ ∃ ws : List Wd, H p = some (.lst (ws.map sv)) ∧ Code ws ∧ ∀ zs : List Wd, zs.Perm ws → RetL H Q (zs.map sv)
theorem ok_checked (B : Bi mg) (G_MOST_WORDS : ∃ t, mg "MOST_WORDS" = some (.int 12 t)) (D : Def K mg "checked" s_checked) (c_is_word : Cal P w K mg base CX0 "is_word" 1 ["thing"] sp_is_word) : Cal P w K mg base CX0 "checked" 2 ["words"] sp_checked := by
  have nd := sc_checked.nd
  refine D.cal sc_checked (fun _ _ _ _ _ _ us hl => match us, hl with | [_], _ => rfl) (fun vs H Q E h => ?_) (fun f cdv A outer s H vs Q E hr h => ?_)
  · obtain ⟨_, rfl, _⟩ := h
    rfl
  · obtain ⟨p, rfl, ws, hp, hc, q⟩ := h
    refine ⟨_, PSs.nox (pss_cons (ps_if (pt_not (pt_val (pe_callB (call_is .lst) (by rfl) B.isinstance (by decide +kernel) (pa_cons (pv 0) (pa_cons (pe_ty .lst (by rfl) B.list (by decide +kernel)) pa_nil)))))
        (pss_one ps_never)
        pss_nil)
      (pss_cons (ps_if (pt_cmpR op_gt (pe_callB (r := rLenL K) call_lenl (by rfl) B.len PySem.boot_len (pa_cons (pv 0) pa_nil)) (pe_globi G_MOST_WORDS rfl) (nomark _))
        (pss_one ps_never)
        pss_nil)
      (pss_cons (ps_set (i := 1) nd rfl (.inl rfl) (pe_lst pa_nil))
      (pss_cons (ps_for PassesOwn.never rfl (pi_list (pv 0)) (pg_name (i := 2) nd rfl (.inl rfl))
        (pss_cons (ps_if (pt_not (pt_val (pe_cal c_is_word hr (pa_cons (pv 2) pa_nil))))
          (pss_one ps_never)
          pss_nil)
        (pss_cons (ps_if (pt_cmpR (r := rInW K false) op_inw (pv 2) (pv 1) (by rfl))
          (pss_one ps_never)
          pss_nil)
        (pss_one (ps_expr (pe_bm PySem.F.plainAttrs_list PySem.F.slot_list_append PySem.F.type_list_append mt_app (pv 1) (pa_cons (pv 2) pa_nil)))))))
      (pss_one (ps_ret (pe_callB (r := rSortedW K) call_sortedw (by rfl) B.sorted (by decide +kernel) (pa_cons (pv 1) pa_nil)))))))), ?_⟩
    try dsimp only [cxOf, Cx.nox, Cx.wish]
    have hl := hc.le
    fail "gi"
    refine itd (fun e => absurd e (by simp only [List.length_map]; omega)) fun _ => ?_
    fail "gi"
    rename_i l hl2
    refine for_wl (xs := ws) (j := 2) (fun pre σ' H' => ∃ (x2 : Option V), σ' = [some (.ref p), some (.ref l), x2] ∧ Same H H' ∧ H' l = some (.lst (pre.map sv))) ⟨none, rfl, by fail "same", by fail "look"⟩ ?_ ?_ ?_
    · rintro pre σ' H' ⟨x2, rfl, a1, a2⟩
      fail "seq"
    · rintro pre x post σ' H' ex ⟨x2, rfl, a1, a2⟩
      have hx : Word x := hc.wd x (by rw [ex]; simp)
      have hx2 : x.length ≤ 100000 := by have := hx.2.1; omega
      have hm : (pre.map sv).length < 100000 := by rw [List.length_map]; have := congrArg List.length ex; rw [List.length_append] at this; omega
      have nx : x ∉ pre := fun z => by
        have := hc.nd
        rw [ex] at this
        exact (List.nodup_append.mp this).2.2 x z x List.mem_cons_self rfl
      fail "gi"
      refine itnb (fun e => absurd hx (of_decide_eq_false e)) fun _ => ?_
      fail "gi"
      refine itd (fun e => absurd e nx) fun _ => ?_
      fail "gi"
      exact ⟨by fail "same", by fail "look"⟩
    · rintro σ' H' ⟨x2, rfl, a1, a2⟩
      fail "gi"
      intro ys py so
      fail "gi"
      exact q ys py _ _ (by fail "same") (by fail "fr") (by fail "look")
abbrev s_may_begin : Stmt := top 15
theorem sc_may_begin : FnScope ["words", "text"] ["words", "text"] (defScope s_may_begin) := ⟨rfl, rfl, rfl, by decide +kernel, rfl, by decide +kernel, by decide +kernel⟩
theorem rch_perm {zs ws : List Wd} (h : zs.Perm ws) {t : Wd} {i : Nat} (r : Rch zs t i) : Rch ws t i := by
  induction r with
  | zero => exact .zero
  | step i w _ b c d ih => exact .step i w ih b (h.mem_iff.mp c) d
theorem beg_perm {zs ws : List Wd} (h : zs.Perm ws) {t : Wd} : Beg zs t ↔ Beg ws t := by
  have one : ∀ {zs ws : List Wd}, zs.Perm ws → Beg zs t → Beg ws t := fun h k => by
    rcases k with ⟨i, a, b, w, c, d⟩ | k
    · exact .inl ⟨i, a, rch_perm h b, w, h.mem_iff.mp c, d⟩
    · exact .inr (rch_perm h k)
  exact ⟨one h, one h.symm⟩
theorem ok_may_begin (B : Bi mg) (D : Def K mg "may_begin" s_may_begin) (c_checked : Cal P w K mg base CX0 "checked" 2 ["words"] sp_checked) (c_begins : Cal P w K mg base CX0 "begins" 2 ["words", "text"] sp_law_begins) : Cal P w K mg base CX0 "may_begin" 3 ["words", "text"] sp_law_begins := by
  have nd := sc_may_begin.nd
  refine D.cal sc_may_begin (fun _ _ _ _ _ _ us hl => match us, hl with | [_, _], _ => rfl) (fun vs H Q E h => ?_) (fun f cdv A outer s H vs Q E hr h => ?_)
  · obtain ⟨_, _, rfl, _⟩ := h
    rfl
  · obtain ⟨lw, t, rfl, ws, hw, hc, ht, q⟩ := h
    refine ⟨_, PSs.nox (pss_one (ps_ret (pe_cal c_begins hr (pa_cons (pe_cal c_checked hr (pa_cons (pv 0) pa_nil)) (pa_cons (pv 1) pa_nil))))), ?_⟩
    try dsimp only [cxOf, Cx.nox, Cx.wish]
    fail "gi"
    intro zs pz
    have hz := Code.perm pz hc
    fail "gi"
    intro b hb
    fail "gi"
    exact q b (hb.trans (beg_perm pz)) _ (by fail "same")

abbrev s_law : Stmt := top 28
theorem sc_law : FnScope ["_law_script", "_law_words_here", "_law_text_here", "_law_some", "_law_handed", "_law_one", "_law_found"] ["_law_script"] (defScope s_law) := ⟨rfl, rfl, rfl, by decide +kernel, rfl, by decide +kernel, by decide +kernel⟩
def sp_law (K : PySem.W.Frag) : Sp := fun vs H Q _ => ∃ (p : Addr), vs = [.ref p] ∧ ∃ ns : List Int, SqL K H p (ns.map V.int) ∧ Ret H Q (.bl true)
theorem ok_law {fl : Addr} {fd : FuncData} (B : Bi mg) (F : FunD K "law" "law" (defArgs s_law) (defBody s_law) (defScope s_law) [] [] fl fd) (c_law_words : Cal P w K mg base CX0 "_law_words" 4 ["_law_script", "_law_first"] (sp_law_words K)) (c_law_text : Cal P w K mg base CX0 "_law_text" 3 ["_law_script", "_law_first", "_law_words_here"] (sp_law_text K)) (c_law_at : Cal P w K mg base CX0 "_law_at" 1 ["_law_script", "_law_k"] (sp_law_at K)) (c_may_begin : Cal P w K mg base CX0 "may_begin" 3 ["words", "text"] sp_law_begins) (c_law_begins : Cal P w K mg base CX0 "_law_begins" 2 ["_law_words_here", "_law_text_here"] sp_law_begins) : FnOk P w K mg base CX0 5 fl fd ["_law_script"] (sp_law K) := by
  have nd := sc_law.nd
  refine F.ok sc_law (fun vs H Q E h => ?_) (fun cdv A outer s H vs Q E hr h => ?_)
  · obtain ⟨_, rfl, _⟩ := h
    rfl
  · obtain ⟨p, rfl, ns, hS, q⟩ := h
    refine ⟨_, PSs.nox (pss_cons (ps_set (i := 1) nd rfl (.inl rfl) (pe_cal c_law_words hr (pa_cons (pv 0) (pa_cons pe_int pa_nil))))
      (pss_cons (ps_set (i := 2) nd rfl (.inl rfl) (pe_cal c_law_text hr (pa_cons (pv 0) (pa_cons pe_int (pa_cons (pv 1) pa_nil)))))
      (pss_cons (ps_set (i := 3) nd rfl (.inl rfl) (pe_lst (pa_cons (pe_slice (r := rSlW) sl_w (pv 2) po_none (po_some (pe_op op_mod (pe_cal c_law_at hr (pa_cons (pv 0) (pa_cons pe_int pa_nil))) (pe_op op_add (pe_callB call_lenw (by rfl) B.len PySem.boot_len (pa_cons (pv 2) pa_nil)) pe_int)))) (pa_cons (pv 2) (pa_cons (pe_slice (r := rSlW) sl_w (pv 2) (po_some (pe_op op_mod (pe_cal c_law_at hr (pa_cons (pv 0) (pa_cons pe_int pa_nil))) (pe_op op_add (pe_callB call_lenw (by rfl) B.len PySem.boot_len (pa_cons (pv 2) pa_nil)) pe_int))) po_none) pa_nil)))))
      (pss_cons (ps_set (i := 4) nd rfl (.inl rfl) (pe_callTy (r := rListOf K) call_listl (by rfl) B.list (by decide +kernel) (pa_cons (pv 1) pa_nil)))
      (pss_cons (ps_for PassesOwn.never rfl (pi_list (pe_op op_catl (pv 3) (pe_slice (r := rSlLn K) sl_l (pv 3) po_none (po_some pe_int)))) (pg_name (i := 5) nd rfl (.inl rfl))
        (pss_cons (ps_set (i := 6) nd rfl (.inl rfl) (pe_cal c_may_begin hr (pa_cons (pv 4) (pa_cons (pv 5) pa_nil))))
        (pss_one (ps_if (PW.pt (pw_or (pt_not (pt_val (pe_callB (call_is .bl) (by rfl) B.isinstance (by decide +kernel) (pa_cons (pv 6) (pa_cons (pe_ty .bl (by rfl) B.bool (by decide +kernel)) pa_nil))))) (pw_or1 (pt_cmpR op_ne (pv 6) (pe_cal c_law_begins hr (pa_cons (pv 1) (pa_cons (pv 5) pa_nil))) (nomark _)))))
          (pss_one (ps_ret pe_bl))
          pss_nil))))
      (pss_one (ps_ret (pe_cmpR (r := rEqP K) (op_eqp hr.units) (pv 4) (pv 1) (nomark _))))))))), ?_⟩
    try dsimp only [cxOf, Cx.nox, Cx.wish]
    fail "gi"
    intro ws hc
    fail "gi"
    intro t ht hA
    have o2 := ok_strs ws
    have hwl := hc.le
    have k1 := cutW_len t none (some (cell ns 15 % ((t.length : Int) + 1)))
    have k2 := cutW_len t (some (cell ns 15 % ((t.length : Int) + 1))) none
    fail "gi"
    rename_i p1 H1 s1 np1 h1 H2 s2 p2 np2 p3 np3 p4 np4
    generalize cutW t none (some (cell ns 15 % ((t.length : Int) + 1))) = a at *
    generalize cutW t (some (cell ns 15 % ((t.length : Int) + 1))) none = c at *
    have e1 : cutV [sv a, sv t, sv c] none (some 1) = [sv a] := by rw [cutV_toI (by decide)]; rfl
    rw [e1]
    fail "gi"
    rename_i p5 np5
    have hL : upd (upd (upd (upd H2 p2 (.lst [sv a, sv t, sv c])) p3 (.lst (ws.map sv))) p4 (.lst [sv a])) p5 (.lst ([sv a, sv t, sv c] ++ [sv a])) p5 = some (.lst (([a, t, c, a] : List Wd).map sv)) := upd_same
    refine for_wl (xs := [a, t, c, a]) (j := 5) (fun pre σ' H' => ∃ (x5 x6 : Option V), σ' = [some (.ref p), some (.ref p1), some (sv t), some (.ref p2), some (.ref p3), x5, x6] ∧ Same (upd (upd (upd (upd H2 p2 (.lst [sv a, sv t, sv c])) p3 (.lst (ws.map sv))) p4 (.lst [sv a])) p5 (.lst ([sv a, sv t, sv c] ++ [sv a]))) H') ⟨none, none, rfl, Same.refl _⟩ ?_ ?_ ?_
    · rintro pre σ' H' ⟨x5, x6, rfl, a1⟩
      exact SqL.of (same_at a1 hL)
    · rintro pre x post σ' H' ex ⟨x5, x6, rfl, a1⟩
      have hxm : x ∈ ([a, t, c, a] : List Wd) := by rw [ex]; simp
      have hx : x.length ≤ 1000 := by
        simp only [List.mem_cons, List.not_mem_nil, or_false] at hxm
        rcases hxm with rfl | rfl | rfl | rfl <;> omega
      fail "gi"
      intro b hb
      fail "gi"
      intro b' hb'
      obtain rfl : b = b' := Bool.eq_iff_iff.mpr (hb.trans hb'.symm)
      cases b
      · fail "gi"
        fail "same"
      · fail "gi"
        fail "same"
    · rintro σ' H' ⟨x5, x6, rfl, a1⟩
      fail "gi"
      have e : PyData.eqv (.list (ws.map fun a => PyData.str (S a))) (.list (ws.map fun a => PyData.str (S a))) = true := (eqv_strs ws ws).trans (decide_eq_true rfl)
      rw [e]
      exact q _ (by fail "same")

end
end One


set_option Elab.async false
set_option linter.all false
set_option maxRecDepth 100000
set_option maxHeartbeats 400000
set_option pp.maxSteps 700
namespace One
open PySem PySem.Spec PyProof.Rows L2
local macro_rules | `(tactic| fail "as") => `(tactic| with_reducible assumption)
local macro_rules | `(tactic| fail "same") => `(tactic| first
  | with_reducible exact Same.refl _
  | fail "as"
  | ((with_reducible show Same _ (upd _ _ _)); first
    | exact Same.trans (by fail "same") (new (by fail "as"))
    | exact mutd (by fail "same") (by fail "fr"))
  | ((with_reducible refine Same.trans ?_ (by fail "as")); fail "same"))
local macro_rules | `(tactic| fail "fr") => `(tactic| first
  | fail "as"
  | ((with_reducible refine Same.free ?_ (by fail "as")); fail "same"))
local macro_rules | `(tactic| fail "look") => `(tactic| first
  | ((with_reducible show upd _ _ _ _ = _); first
    | with_reducible exact upd_same
    | with_reducible exact upd_nil
    | with_reducible exact upd_snoc
    | ((with_reducible refine upd_at (by fail "as") ?_); fail "look")
    | ((with_reducible refine new_at (by fail "fr") ?_); fail "look"))
  | fail "as"
  | ((with_reducible refine same_at (by fail "as") ?_); fail "look")
  | ((with_reducible refine same_at ?_ (by fail "as")); fail "same"))
local macro_rules | `(tactic| fail "ne") => `(tactic| (refine ne_free (by fail "as") (by fail "look")))
local macro_rules | `(tactic| fail "seq") => `(tactic| first
  | fail "as"
  | ((with_reducible show SqL _ _ _ _); with_reducible exact SqL.of (by fail "look"))
  | ((with_reducible show SqT _ _ _ _); with_reducible exact SqT.of (by fail "look"))
  | ((with_reducible refine Same.seq ?_ (by fail "as")); fail "same")
  | ((with_reducible refine sqT ?_ (by fail "as")); fail "same"))
local macro_rules | `(tactic| fail "sq") => `(tactic| first
  | ((with_reducible show SqL _ _ _ _); fail "seq")
  | ((with_reducible show SqT _ _ _ _); fail "seq")
  | ((with_reducible show _ = some _); fail "look"))
local macro_rules | `(tactic| fail "le") => `(tactic| first
  | fail "as"
  | with_reducible exact sz (by simp)
  | ((try simp only [List.length_append, List.length_cons, List.length_nil, List.length_map, List.length_replicate, List.length_set]); omega)
  | exact Int.emod_nonneg _ (by omega)
  | decide)
local macro_rules | `(tactic| fail "lf") => `(tactic| first
  | fail "as"
  | ((with_reducible show _ = _); exact rfl)
  | ((with_reducible show _ ≤ _); fail "le")
  | ((with_reducible show _ < _); first | decide | fail "as" | omega)
  | fail "sq"
  | ((with_reducible show CDiv _ _); exact ⟨by decide, by decide⟩)
  | ((with_reducible show CMul _ _); first | exact .inl ⟨by decide, by decide⟩ | exact .inr ⟨by decide, by decide⟩ | exact .inl ⟨by omega, by omega⟩ | exact .inr ⟨by omega, by omega⟩)
  | exact ⟨_, rfl⟩
  | exact ⟨_, by fail "sq"⟩
  | exact tyL (by fail "seq")
  | (refine ⟨?_, ?_, ?_, ?_⟩ <;> omega)
  | (show (0 : Int) < _; first | decide | omega)
  | (show (_ : Int) ≠ 0; first | decide | omega))
local macro_rules | `(tactic| fail "dp") => `(tactic| first
  | exact .str _ | exact .int _ | exact .bl _ | exact .non
  | exact .tup (by fail "seq") (by fail "dps")
  | exact .lst (by fail "seq") (by fail "dps"))
local macro_rules | `(tactic| fail "dps") => `(tactic| first
  | with_reducible exact dpAll_strs _
  | with_reducible exact dpAll_ints _
  | ((with_reducible show DpAll _ _ (_ :: _) _); exact .cons (by fail "dp") (by fail "dps"))
  | exact .nil)
local macro_rules | `(tactic| fail "dpS") => `(tactic| ((with_reducible show Dp _ _ _ _); fail "dp"))
local macro_rules | `(tactic| fail "ga") => `(tactic| ((with_reducible show _ = some _); fail "as"))
local macro_rules | `(tactic| fail "gE") => `(tactic| first
  | with_reducible refine ⟨_, by fail "dpS", ?_⟩
  | refine ⟨_, kI _, ?_⟩
  | refine ⟨_, kS _, ?_⟩
  | refine ⟨_, by fail "ga", ?_⟩
  | refine ⟨_, rfl, ?_⟩
  | refine ⟨_, _, rfl, rfl, ?_⟩
  | refine ⟨_, _, rfl, ?_⟩
  | refine ⟨_, _, _, rfl, ?_⟩
  | refine ⟨_, _, _, _, rfl, ?_⟩
  | refine ⟨_, rfl, rfl, ?_⟩
  | refine ⟨_, _, _, rfl, rfl, ?_⟩
  | refine ⟨_, by fail "sq", ?_⟩
  | refine ⟨_, _, rfl, by fail "sq", rfl, ?_⟩
  | refine ⟨_, TyW.int _, ?_⟩
  | refine ⟨_, TyW.str _, ?_⟩
  | refine ⟨_, TyW.non, ?_⟩
  | refine ⟨_, TyW.bl _, ?_⟩
  | refine ⟨_, TyW.tup (by fail "look"), ?_⟩
  | refine ⟨_, TyW.lst (by fail "look"), ?_⟩)
local macro_rules | `(tactic| fail "g1") => `(tactic| first
  | (refine (show ∃ _, _ from ?_); fail "gE")
  | (refine (show _ ∧ _ from ?_); refine And.intro (by fail "lf") ?_))
local macro_rules | `(tactic| fail "go") => `(tactic| repeat (fail "g1"))
local macro_rules | `(tactic| fail "gi") => `(tactic| repeat (first
  | fail "g1"
  | refine (show Ret _ _ _ from fun H' s' => ?_)
  | refine (show RetL _ _ _ from fun p H' s' np hp => ?_)
  | refine (show RetT _ _ _ from fun p H' s' np hp => ?_)
  | refine (show ∀ p : Addr, _ = none → _ from fun p hp => ?_)))
/-! ### the head -/
def dd_law_at : He.DefD := ⟨("_law_at", none), "_law_at", "_law_at", defArgs s_law_at, defBody s_law_at, defScope s_law_at, [], []⟩
def dd_law_mixed : He.DefD := ⟨("_law_mixed", none), "_law_mixed", "_law_mixed", defArgs s_law_mixed, defBody s_law_mixed, defScope s_law_mixed, [], []⟩
def dd_law_signs : He.DefD := ⟨("_law_signs", none), "_law_signs", "_law_signs", defArgs s_law_signs, defBody s_law_signs, defScope s_law_signs, [], []⟩
def dd_law_word : He.DefD := ⟨("_law_word", none), "_law_word", "_law_word", defArgs s_law_word, defBody s_law_word, defScope s_law_word, [], []⟩
def dd_law_any_word : He.DefD := ⟨("_law_any_word", none), "_law_any_word", "_law_any_word", defArgs s_law_any_word, defBody s_law_any_word, defScope s_law_any_word, [], []⟩
def dd_law_more : He.DefD := ⟨("_law_more", none), "_law_more", "_law_more", defArgs s_law_more, defBody s_law_more, defScope s_law_more, [], []⟩
def dd_law_chain : He.DefD := ⟨("_law_chain", none), "_law_chain", "_law_chain", defArgs s_law_chain, defBody s_law_chain, defScope s_law_chain, [], []⟩
def dd_law_words : He.DefD := ⟨("_law_words", none), "_law_words", "_law_words", defArgs s_law_words, defBody s_law_words, defScope s_law_words, [], []⟩
def dd_law_row : He.DefD := ⟨("_law_row", none), "_law_row", "_law_row", defArgs s_law_row, defBody s_law_row, defScope s_law_row, [], []⟩
def dd_law_text : He.DefD := ⟨("_law_text", none), "_law_text", "_law_text", defArgs s_law_text, defBody s_law_text, defScope s_law_text, [], []⟩
def dd_left_of : He.DefD := ⟨("left_of", none), "left_of", "left_of", defArgs s_left_of, defBody s_left_of, defScope s_left_of, [], []⟩
def dd_law_begins : He.DefD := ⟨("_law_begins", none), "_law_begins", "_law_begins", defArgs s_law_begins, defBody s_law_begins, defScope s_law_begins, [], []⟩
def dd_begins : He.DefD := ⟨("begins", none), "begins", "begins", defArgs s_begins, defBody s_begins, defScope s_begins, [], []⟩
def dd_is_word : He.DefD := ⟨("is_word", none), "is_word", "is_word", defArgs s_is_word, defBody s_is_word, defScope s_is_word, [], []⟩
def dd_checked : He.DefD := ⟨("checked", none), "checked", "checked", defArgs s_checked, defBody s_checked, defScope s_checked, [], []⟩
def dd_may_begin : He.DefD := ⟨("may_begin", none), "may_begin", "may_begin", defArgs s_may_begin, defBody s_may_begin, defScope s_may_begin, [], []⟩
def dd_law : He.DefD := ⟨("law", none), "law", "law", defArgs s_law, defBody s_law, defScope s_law, [], []⟩
def fn : List He.DefD := [dd_law_at, dd_law_mixed, dd_law_signs, dd_law_word, dd_law_any_word, dd_law_more, dd_law_chain, dd_law_words, dd_law_row, dd_law_text, dd_left_of, dd_law_begins, dd_begins, dd_is_word, dd_checked, dd_may_begin, dd_law]
def fa : List He.Fa := [.glo "_law_at", .glo "_law_mixed", .glo "_law_signs", .glo "_law_word", .glo "_law_any_word", .glo "_law_more", .glo "_law_chain", .glo "_law_words", .glo "_law_row", .glo "_law_text", .glo "left_of", .glo "_law_begins", .glo "begins", .glo "is_word", .glo "checked", .glo "may_begin", .glo "law", .free "len", .free "isinstance", .free "range", .free "sorted", .free "sum", .free "max", .free "min", .free "reversed", .free "list", .free "dict", .free "int", .free "str", .free "tuple", .free "bool", .free "enumerate", .int "MOST_SIGNS" 10, .int "MOST_WORDS" 12, .str "SIGNS" "abcdefghijklmnopqrstuvwxyz"]
abbrev R : PySem.W.OpenRow := PySem.W.OpenLaw.row PySem.Challenge.rw_onereading_k05_beginnings_of_texts
abbrev hk : PySem.W.Hook := He.hookD 4 fa fn
def ob (s : PySem.W.SharedT) : He.AlD := He.obsDG 4 fa fn (HandSHeadRun.getT s)
theorem ob_eq (s : PySem.W.SharedT) : ob s = hk.obs s.abs := He.obsDG_eq (HandSHeadRun.getT_eq s)
def loose0 : List Str := ["CodeError", "BadCode", "Full", "BadWord", "Twice", "is_word", "checked", "left_of", "begins", "may_begin", "_law_at", "_law_mixed", "_law_signs", "_law_word", "_law_any_word", "_law_more", "_law_chain", "_law_words", "_law_row", "_law_text", "_law_begins", "SIGNS", "MOST_WORDS", "MOST_SIGNS"]
def loose : List Str := loose0
theorem run (w : World) : HandSHeadRun.RunEq R (PySem.W.view R.prog [28]) hk ob 4000 loose w := by
  intro os
  kernel_rfl
theorem facts {P : Program} {w : World} {K : PySem.W.Frag} {h : Heap} {mg : Str → Option Value} {f : Addr} (X : K.In h) (G : h.Ns mainGlobals mg) (hfa : mg ("law" : Str) = some (.ref f)) (c : He.SaysD fa fn K) :
    ∃ fd : FuncData, (∀ (s : Shared) (v : Value), BindsTo s fd ⟨[v], []⟩ [("_law_script", v)]) ∧ ∀ base : Heap, K.In base → base.Ns mainGlobals mg → FnOk P w K mg base CX0 5 f fd ["_law_script"] (sp_law K) := by
  have D_law_at : Def K mg "_law_at" s_law_at := by
    obtain ⟨fd, F⟩ := c.def_ 0 (d := dd_law_at) rfl
    exact ⟨_, fd, He.glo_ok X G (c.fact 0 (f := .glo "_law_at") rfl), F⟩
  have D_law_mixed : Def K mg "_law_mixed" s_law_mixed := by
    obtain ⟨fd, F⟩ := c.def_ 1 (d := dd_law_mixed) rfl
    exact ⟨_, fd, He.glo_ok X G (c.fact 1 (f := .glo "_law_mixed") rfl), F⟩
  have D_law_signs : Def K mg "_law_signs" s_law_signs := by
    obtain ⟨fd, F⟩ := c.def_ 2 (d := dd_law_signs) rfl
    exact ⟨_, fd, He.glo_ok X G (c.fact 2 (f := .glo "_law_signs") rfl), F⟩
  have D_law_word : Def K mg "_law_word" s_law_word := by
    obtain ⟨fd, F⟩ := c.def_ 3 (d := dd_law_word) rfl
    exact ⟨_, fd, He.glo_ok X G (c.fact 3 (f := .glo "_law_word") rfl), F⟩
  have D_law_any_word : Def K mg "_law_any_word" s_law_any_word := by
    obtain ⟨fd, F⟩ := c.def_ 4 (d := dd_law_any_word) rfl
    exact ⟨_, fd, He.glo_ok X G (c.fact 4 (f := .glo "_law_any_word") rfl), F⟩
  have D_law_more : Def K mg "_law_more" s_law_more := by
    obtain ⟨fd, F⟩ := c.def_ 5 (d := dd_law_more) rfl
    exact ⟨_, fd, He.glo_ok X G (c.fact 5 (f := .glo "_law_more") rfl), F⟩
  have D_law_chain : Def K mg "_law_chain" s_law_chain := by
    obtain ⟨fd, F⟩ := c.def_ 6 (d := dd_law_chain) rfl
    exact ⟨_, fd, He.glo_ok X G (c.fact 6 (f := .glo "_law_chain") rfl), F⟩
  have D_law_words : Def K mg "_law_words" s_law_words := by
    obtain ⟨fd, F⟩ := c.def_ 7 (d := dd_law_words) rfl
    exact ⟨_, fd, He.glo_ok X G (c.fact 7 (f := .glo "_law_words") rfl), F⟩
  have D_law_row : Def K mg "_law_row" s_law_row := by
    obtain ⟨fd, F⟩ := c.def_ 8 (d := dd_law_row) rfl
    exact ⟨_, fd, He.glo_ok X G (c.fact 8 (f := .glo "_law_row") rfl), F⟩
  have D_law_text : Def K mg "_law_text" s_law_text := by
    obtain ⟨fd, F⟩ := c.def_ 9 (d := dd_law_text) rfl
    exact ⟨_, fd, He.glo_ok X G (c.fact 9 (f := .glo "_law_text") rfl), F⟩
  have D_left_of : Def K mg "left_of" s_left_of := by
    obtain ⟨fd, F⟩ := c.def_ 10 (d := dd_left_of) rfl
    exact ⟨_, fd, He.glo_ok X G (c.fact 10 (f := .glo "left_of") rfl), F⟩
  have D_law_begins : Def K mg "_law_begins" s_law_begins := by
    obtain ⟨fd, F⟩ := c.def_ 11 (d := dd_law_begins) rfl
    exact ⟨_, fd, He.glo_ok X G (c.fact 11 (f := .glo "_law_begins") rfl), F⟩
  have D_begins : Def K mg "begins" s_begins := by
    obtain ⟨fd, F⟩ := c.def_ 12 (d := dd_begins) rfl
    exact ⟨_, fd, He.glo_ok X G (c.fact 12 (f := .glo "begins") rfl), F⟩
  have D_is_word : Def K mg "is_word" s_is_word := by
    obtain ⟨fd, F⟩ := c.def_ 13 (d := dd_is_word) rfl
    exact ⟨_, fd, He.glo_ok X G (c.fact 13 (f := .glo "is_word") rfl), F⟩
  have D_checked : Def K mg "checked" s_checked := by
    obtain ⟨fd, F⟩ := c.def_ 14 (d := dd_checked) rfl
    exact ⟨_, fd, He.glo_ok X G (c.fact 14 (f := .glo "checked") rfl), F⟩
  have D_may_begin : Def K mg "may_begin" s_may_begin := by
    obtain ⟨fd, F⟩ := c.def_ 15 (d := dd_may_begin) rfl
    exact ⟨_, fd, He.glo_ok X G (c.fact 15 (f := .glo "may_begin") rfl), F⟩
  have D_law : Def K mg "law" s_law := by
    obtain ⟨fd, F⟩ := c.def_ 16 (d := dd_law) rfl
    exact ⟨_, fd, He.glo_ok X G (c.fact 16 (f := .glo "law") rfl), F⟩
  have B : Bi mg := ⟨He.free_ok X G (c.fact 17 (f := .free "len") rfl), He.free_ok X G (c.fact 18 (f := .free "isinstance") rfl), He.free_ok X G (c.fact 19 (f := .free "range") rfl), He.free_ok X G (c.fact 20 (f := .free "sorted") rfl), He.free_ok X G (c.fact 21 (f := .free "sum") rfl), He.free_ok X G (c.fact 22 (f := .free "max") rfl), He.free_ok X G (c.fact 23 (f := .free "min") rfl), He.free_ok X G (c.fact 24 (f := .free "reversed") rfl), He.free_ok X G (c.fact 25 (f := .free "list") rfl), He.free_ok X G (c.fact 26 (f := .free "dict") rfl), He.free_ok X G (c.fact 27 (f := .free "int") rfl), He.free_ok X G (c.fact 28 (f := .free "str") rfl), He.free_ok X G (c.fact 29 (f := .free "tuple") rfl), He.free_ok X G (c.fact 30 (f := .free "bool") rfl), He.free_ok X G (c.fact 31 (f := .free "enumerate") rfl)⟩
  have G_MOST_SIGNS : ∃ t, mg "MOST_SIGNS" = some (.int 10 t) := He.int_ok X G (c.fact 32 (f := .int "MOST_SIGNS" 10) rfl)
  have G_MOST_WORDS : ∃ t, mg "MOST_WORDS" = some (.int 12 t) := He.int_ok X G (c.fact 33 (f := .int "MOST_WORDS" 12) rfl)
  have G_SIGNS : ∃ t, mg "SIGNS" = some (.str "abcdefghijklmnopqrstuvwxyz" t) := He.str_ok X G (c.fact 34 (f := .str "SIGNS" "abcdefghijklmnopqrstuvwxyz") rfl)
  obtain ⟨f1, fd, hm, F⟩ := D_law
  have e := hfa.symm.trans hm
  cases e
  have b := FunD.bindsA (ps := ["_law_script"]) F fun _ _ _ _ _ _ us hl => match us, hl with | [_], _ => rfl
  refine ⟨fd, fun s v => b s [v] rfl, fun base _ _ => ?_⟩
  have c_law_at := ok_law_at (P := P) (w := w) (base := base) B D_law_at
  have c_law_mixed := ok_law_mixed (P := P) (w := w) (base := base) B D_law_mixed
  have c_law_signs := ok_law_signs (P := P) (w := w) (base := base) B D_law_signs
  have c_law_word := ok_law_word (P := P) (w := w) (base := base) B D_law_word c_law_mixed
  have c_law_any_word := ok_law_any_word (P := P) (w := w) (base := base) B D_law_any_word
  have c_law_more := ok_law_more (P := P) (w := w) (base := base) B D_law_more c_law_word
  have c_law_chain := ok_law_chain (P := P) (w := w) (base := base) B D_law_chain c_law_at c_law_mixed c_law_word
  have c_law_words := ok_law_words (P := P) (w := w) (base := base) B D_law_words c_law_at c_law_signs c_law_chain c_law_mixed c_law_word c_law_any_word c_law_more
  have c_law_row := ok_law_row (P := P) (w := w) (base := base) B D_law_row c_law_at c_law_mixed
  have c_law_text := ok_law_text (P := P) (w := w) (base := base) B D_law_text c_law_row c_law_at
  have c_left_of := ok_left_of (P := P) (w := w) (base := base) B D_left_of
  have c_law_begins := ok_law_begins (P := P) (w := w) (base := base) B D_law_begins
  have c_begins := ok_begins (P := P) (w := w) (base := base) B D_begins c_left_of
  have c_is_word := ok_is_word (P := P) (w := w) (base := base) B G_MOST_SIGNS G_SIGNS D_is_word
  have c_checked := ok_checked (P := P) (w := w) (base := base) B G_MOST_WORDS D_checked c_is_word
  have c_may_begin := ok_may_begin (P := P) (w := w) (base := base) B D_may_begin c_checked c_begins
  exact ok_law B F c_law_words c_law_text c_law_at c_may_begin c_law_begins
end One
open PySem PySem.W PySem.Calls PyProof.Rows
set_option maxHeartbeats 0 in
theorem PySem.Challenge.cw_onereading_k05_beginnings_of_texts_holds : PySem.Challenge.rw_onereading_k05_beginnings_of_texts.Holds := by
  w_on; o_law
  refine HandSHeadRun.head_any (r := One.R) (q := view One.R.prog [28]) (H := One.hk) (ob := One.ob) (M := 4000) (loose := One.loose) (d := HandSHeadRun.topDef One.R.prog 28) (kwd := []) One.ob_eq
    (by kernel_rfl) (fun s => by kernel_rfl) One.run (by kernel_rfl) (by kernel_rfl) (by kernel_rfl) (by rfl) (by first | assumption | decide +kernel) (by decide +kernel) ⟨rfl, rfl, rfl, rfl, rfl, by decide +kernel⟩ ?hw ?hc
  case hw => w_witness2
  case hc =>
    refine L2.walk_ofE (l := PySem.Challenge.rw_onereading_k05_beginnings_of_texts) (n := 63) (k := 5) (x := "_law_script") (CX := L2.CX0) rfl (by decide) (by kernel_rfl) ⟨rfl, by decide, by decide⟩ ?F (fun _ _ _ _ z => z)
    intro w mg fa h Y G hmg0
    obtain ⟨K, KX, c⟩ := Y
    have hmg : mg ("law" : PySem.Str) = some (.ref fa) := by
      have e : (HandSHeadRun.topDef One.R.prog 28).name = ("law" : PySem.Str) := by kernel_rfl
      rw [← e]
      exact hmg0
    obtain ⟨fd, hb, hF⟩ := One.facts (P := (PySem.Challenge.rw_onereading_k05_beginnings_of_texts).prog) (w := w) KX G hmg c
    exact ⟨K, fd, One.sp_law K, KX, hb, fun H a ns hl _ hS => ⟨a, rfl, ns, hS, fun _ _ => rfl⟩, hF⟩

