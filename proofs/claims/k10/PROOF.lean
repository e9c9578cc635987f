import PyProof.Rows.All
import Wide.All
import OpenK.AllK
import Wide.FinOn
import KE.KStateDown
import KE.DataEq
import HandS.ForMost
import HandS.Defaults
import HandS.IsInst
import HandS.RevRange
import HandS.SortKw
import HandS.Head0
import HandS.Head1
import HandS.Head2
import HandS.HeadEnd
import HandS.HeadHook1
import HandS.HeadHook2
import KE.SortKeyHeap
import HandS.Walk
import HandS.Dict
import HandS.WordsDict
import HandS.Call
import HandS.More
import HandS.DictComp
import HandS.Finally
import HandS.TryOnly
import KE.DatumOrd
import PyProof.Rows.SortShellAny
import PySem.Challenge.RW_onereading_k10_heights_of_rests
set_option Elab.async false
set_option linter.all false
set_option maxRecDepth 100000
set_option maxHeartbeats 4000000
/-! One: a small layer over the hand layer: texts as lists of codes, defs by name, heaps that only grow. -/
namespace One
open PySem PySem.Spec PyProof.Rows L2

/-! ### texts -/
abbrev Wd := List Nat
def S (a : Wd) : Str := ⟨a.toArray⟩
abbrev sv (a : Wd) : V := .str (S a)
theorem S_len (a : Wd) : (S a).length = a.length := by
  rw [TL.len_tl]; simp [S]
theorem S_size (a : Wd) : (S a).cps.size = a.length := by simp [S]
theorem S_cps (a : Wd) : (S a).cps.toList = a := by simp [S]
theorem S_inj {a b : Wd} : S a = S b ↔ a = b := by
  constructor
  · intro h
    have := congrArg (fun x : Str => x.cps.toList) h
    simpa [S] using this
  · intro h; rw [h]
theorem sv_inj {a b : Wd} : sv a = sv b ↔ a = b := by
  rw [V.str.injEq]; exact S_inj
theorem S_tl (x : Str) : S (TL.tl x) = x := TL.mk_tl x
theorem S_ex (x : Str) : ∃ a : Wd, x = S a := ⟨TL.tl x, (S_tl x).symm⟩
theorem S_app (a b : Wd) : S a ++ S b = S (a ++ b) := by
  apply TL.ext_tl
  rw [TL.tl_append]
  simp [S, TL.tl]
theorem dec_sv (a b : Wd) : decide (sv a = sv b) = decide (a = b) := by
  by_cases h : a = b
  · subst h; simp
  · rw [decide_eq_false h, decide_eq_false fun z => h (sv_inj.mp z)]
theorem starts_S (a b : Wd) : Txt.startswith (S a) (S b) = b.isPrefixOf a := by
  unfold Txt.startswith
  rw [StrLaws.subAt_eq, S_len, S_len, S_cps, S_cps, List.drop_zero, Nat.zero_add]
  rw [Bool.eq_iff_iff, Bool.and_eq_true, decide_eq_true_iff, beq_iff_eq, List.isPrefixOf_iff_prefix]
  constructor
  · intro h
    rw [← h.2]
    exact List.take_prefix _ _
  · intro h
    exact ⟨h.length_le, (List.prefix_iff_eq_take.mp h).symm⟩
theorem cutS_S (a : Wd) (lo hi : Option Int) : cutS (S a) lo hi = S ((a.drop (HT.sIx a.length 0 lo)).take (HT.sIx a.length a.length hi - HT.sIx a.length 0 lo)) := by
  unfold cutS
  rw [S_len, S_cps]
  rfl
theorem cut_from (a : Wd) (k : Nat) : cutS (S a) (some (k : Int)) none = S (a.drop k) := by
  rw [cutS_S, HT.sIx_none, HT.sIx_nat, S_inj]
  by_cases h : k ≤ a.length
  · rw [Nat.min_eq_left h, List.take_of_length_le]
    rw [List.length_drop]; exact Nat.le_refl _
  · rw [Nat.min_eq_right (by omega), List.drop_of_length_le (by omega), List.drop_of_length_le (by omega), List.take_nil]
theorem cut_to (a : Wd) (k : Nat) : cutS (S a) none (some (k : Int)) = S (a.take k) := by
  rw [cutS_S, HT.sIx_none, HT.sIx_nat, S_inj, List.drop_zero, Nat.sub_zero]
  by_cases h : k ≤ a.length
  · rw [Nat.min_eq_left h]
  · rw [Nat.min_eq_right (by omega), List.take_of_length_le (Nat.le_refl _), List.take_of_length_le (by omega)]
theorem cut_mid (a : Wd) (i k : Nat) : cutS (S a) (some (i : Int)) (some ((i : Int) + (k : Int))) = S ((a.drop i).take k) := by
  rw [cutS_S, show ((i : Int) + (k : Int)) = ((i + k : Nat) : Int) from rfl, HT.sIx_nat, HT.sIx_nat, S_inj]
  by_cases h : i + k ≤ a.length
  · rw [Nat.min_eq_left h, Nat.min_eq_left (by omega), Nat.add_sub_cancel_left]
  · by_cases h2 : i ≤ a.length
    · rw [Nat.min_eq_right (by omega), Nat.min_eq_left h2, List.take_of_length_le, List.take_of_length_le]
      · rw [List.length_drop]; omega
      · rw [List.length_drop]; exact Nat.le_refl _
    · rw [List.drop_of_length_le (l := a) (i := i) (by omega), Nat.min_eq_right (by omega), Nat.min_eq_right (by omega), List.drop_of_length_le (by omega), List.take_nil, List.take_nil]
theorem join_S (xs : List Wd) : Txt.join (S []) (xs.map S) = S xs.flatten := by
  rw [TL.join_eq]
  induction xs with
  | nil => rfl
  | cons x r ih =>
    cases r with
    | nil => 
      simp only [List.map_cons, List.map_nil, List.flatten_cons, List.flatten_nil, List.append_nil]
      rfl
    | cons y r =>
      have e : Str.join (S []) ((x :: y :: r).map S) = S x ++ S [] ++ Str.join (S []) ((y :: r).map S) := rfl
      rw [e, ih, S_app, S_app, List.append_nil]
      simp only [List.flatten_cons]

/-! ### what may be as long -/
theorem sz {n : Nat} (h : n ≤ 100000) : n ≤ sizeLine := Nat.le_trans h (by decide)
theorem szl {n : Nat} (h : n < 100000) : n < sizeLine := Nat.lt_of_lt_of_le h (by decide)
theorem szS {a : Wd} (h : a.length ≤ 100000) : (S a).length ≤ sizeLine := by rw [S_len]; exact sz h

/-! ### heaps that only grow -/
theorem new {H : Hp} {p : Addr} {o : HO} (h : H p = none) : Same H (upd H p o) := fun a u e => by
  rw [upd_ne (ne_of_none e h)]; exact e
/-- an object that H does not know may change -/
theorem mutd {H H' : Hp} {p : Addr} {o : HO} (e : Same H H') (h : H p = none) : Same H (upd H' p o) := fun a u ha => by
  rw [upd_ne (ne_of_none ha h)]; exact e a u ha
theorem sqT {K : PySem.W.Frag} {H H' : Hp} {a : Addr} {xs : List V} (e : Same H H') (h : SqT K H a xs) : SqT K H' a xs := by
  rcases h with h | h
  · rcases h with h | ⟨o, h⟩
    · exact .inl (.inl (e a _ h))
    · exact .inl (.inr ⟨o, e a _ h⟩)
  · exact .inr h
mutual
theorem dp_same {K : PySem.W.Frag} {H H' : Hp} (e : Same H H') : ∀ {d : PyData} {v : V}, Dp K H v d → Dp K H' v d
  | _, _, .non => .non
  | _, _, .bl b => .bl b
  | _, _, .int i => .int i
  | _, _, .str x => .str x
  | _, _, .lst h r => .lst (e.seq h) (dpAll_same e r)
  | _, _, .tup h r => .tup (sqT e h) (dpAll_same e r)
theorem dpAll_same {K : PySem.W.Frag} {H H' : Hp} (e : Same H H') : ∀ {ds : List PyData} {vs : List V}, DpAll K H vs ds → DpAll K H' vs ds
  | _, _, .nil => .nil
  | _, _, .cons h r => .cons (dp_same e h) (dpAll_same e r)
end
/-- lists of texts as data -/
theorem dpAll_strs {K : PySem.W.Frag} {H : Hp} : ∀ xs : List Wd, DpAll K H (xs.map sv) (xs.map fun a => PyData.str (S a))
  | [] => .nil
  | x :: r => .cons (.str _) (dpAll_strs r)

/-! ### the module's names -/
structure Bi (mg : Str → Option Value) : Prop where
  len : mg "len" = none
  isinstance : mg "isinstance" = none
  range : mg "range" = none
  sorted : mg "sorted" = none
  sum : mg "sum" = none
  max : mg "max" = none
  min : mg "min" = none
  reversed : mg "reversed" = none
  list : mg "list" = none
  dict : mg "dict" = none
  int : mg "int" = none
  str : mg "str" = none
  tuple : mg "tuple" = none
  bool : mg "bool" = none
  enumerate : mg "enumerate" = none
/-- a def of the text stands under its name -/
def Def (K : PySem.W.Frag) (mg : Str → Option Value) (x : Str) (st : Stmt) : Prop :=
  ∃ f fd, mg x = some (.ref f) ∧ FunD K x x (defArgs st) (defBody st) (defScope st) [] [] f fd
/-- a def that keeps a promise -/
structure Cal (P : Program) (w : World) (K : PySem.W.Frag) (mg : Str → Option Value) (base : Heap) (CX : CXT) (x : Str) (k : Nat) (ps : List Str) (sp : Sp) : Prop where
  ex : ∃ f fd, mg x = some (.ref f) ∧ PySem.W.keepIn K (.ref f) = true ∧ Binds K fd ps [] ∧ FnOk P w K mg base CX k f fd ps sp
section
variable {P : Program} {w : World} {K : PySem.W.Frag} {mg : Str → Option Value} {base : Heap} {CX : CXT} {x : Str} {st : Stmt} {N ps : List Str} {k : Nat} {sp : Sp}
theorem Def.cal (D : Def K mg x st) (S : FnScope N ps (defScope st))
    (hb : ∀ (kV doc pm : Value) (an : Option Addr) (cdv ct : Value) (us : List Value), us.length = ps.length → bindArgs (PySem.W.fnOf x x (defArgs st) (defBody st) (defScope st) .none kV doc pm an cdv ct) ⟨us, []⟩ = pure (ps.zip us))
    (len : ∀ vs H Q E, sp vs H Q E → vs.length = ps.length)
    (hbody : ∀ (f : Addr) (cdv : Value) (A : Around) (outer : List Env) (s : Shared) (H : Hp) (vs : List V) (Q : VK) (E : XK), Room k (A.deeper (envOfC x (defScope st) s.heap.objs.size f cdv)) → sp vs H Q E →
      ∃ t, PSs (cxOf CX P w K mg base N x (defScope st) f cdv A outer s H E) (defBody st) t ∧ t { nx := fun _ H' => Q .non H', rt := Q } (start N vs) H) : Cal P w K mg base CX x (k + 1) ps sp := by
  obtain ⟨f, fd, hm, F⟩ := D
  exact ⟨f, fd, hm, F.kp, F.bindsN hb, F.ok S len fun cdv A outer s H vs Q E hr h => hbody f cdv A outer s H vs Q E hr h⟩
end
section
variable {X : Cx} {CX : CXT} {j k : Nat} {ps : List Str} {sp : Sp} {E : XK} {x : Str} {p pos : Pos} {e : Expr} {es : List Expr} {t : TA}
theorem pe_calE (C : Cal X.prog X.w X.K X.mg X.base CX x k ps sp) (hr : Room j X.A) (hx : Passes CX X E) (ha : PA X (e :: es) t) (hk : k ≤ j := by decide) (hg : Gl X x := by rfl)
    (hdb : (x == ("__debug__" : Str)) = false := by decide) (he : starEach (e :: es) X.env = (false, eval e X.env) :: starEach es X.env := by rfl)
    (hpl : (backTo pos (starEach es X.env)).any (·.1) = false := by rfl) : PE X (.Call (.Name x p) (e :: es) [] pos) (tCall sp [] E t) := by
  obtain ⟨f, fd, hm, hkp, hb, F⟩ := C.ex
  exact pe_call F (hr.mono hk) hg hm hkp hb .nil hx ha hdb he hpl
theorem pe_cal (C : Cal X.prog X.w X.K X.mg X.base CX0 x k ps sp) (hr : Room j X.A) (ha : PA X (e :: es) t) (hk : k ≤ j := by decide) (hg : Gl X x := by rfl)
    (hdb : (x == ("__debug__" : Str)) = false := by decide) (he : starEach (e :: es) X.env = (false, eval e X.env) :: starEach es X.env := by rfl)
    (hpl : (backTo pos (starEach es X.env)).any (·.1) = false := by rfl) : PE X (.Call (.Name x p) (e :: es) [] pos) (tCall sp [] E0 t) :=
  pe_calE C hr pass0 ha hk hg hdb he hpl
end
end One


/-! ### rules over texts as lists of codes -/
namespace One
open PySem PySem.Spec PyProof.Rows L2
section
variable {X : Cx}
theorem OpR.imp {f : Value → Value → Sem Value} {r r' : R2} (h : OpR X f r) (i : ∀ x y H Q, r' x y H Q → r x y H Q) : OpR X f r' := fun pins s σ H x y v u Q I rx ry q => h pins s σ H x y v u Q I rx ry (i _ _ _ _ q)
theorem CallR.imp {f : Value} {r r' : List V → Hp → VK → Prop} (h : CallR X f r) (i : ∀ xs H Q, r' xs H Q → r xs H Q) : CallR X f r' := fun pins s σ H xs us Q I r q => h pins s σ H xs us Q I r (i _ _ _ q)
theorem MtR.imp {id : String} {r r' : V → List V → Hp → VK → Prop} (h : MtR X id r) (i : ∀ x xs H Q, r' x xs H Q → r x xs H Q) : MtR X id r' := fun pins s σ H x xs v us Q I rx rs q => h pins s σ H x xs v us Q I rx rs (i _ _ _ _ q)
theorem SlR.imp {r r' : V → Option Int → Option Int → Hp → VK → Prop} (h : SlR X r) (i : ∀ x lo hi H Q, r' x lo hi H Q → r x lo hi H Q) : SlR X r' := fun pins s σ H x v vl vu lo hi sl Q I rx hs pl pu q => h pins s σ H x v vl vu lo hi sl Q I rx hs pl pu (i _ _ _ _ _ q)
theorem IxR.imp {r r' : R2} (h : IxR X r) (i : ∀ x y H Q, r' x y H Q → r x y H Q) : IxR X r' := fun value slice pins s σ H x y v u Q I rx ry q e => h value slice pins s σ H x y v u Q I rx ry (i _ _ _ _ q) e
theorem pe_w {x : Str} {j : Nat} {pos : Pos} (a : Wd) (h : x = S a) : PE X (.Constant (.str x) j pos) (tC (sv a)) := h ▸ pe_str
/-- None or a text -/
def optv : Option Wd → V
  | none => .non
  | some a => sv a
theorem optv_inj {a b : Option Wd} : optv a = optv b ↔ a = b := by
  cases a <;> cases b <;> simp [optv, S_inj]
theorem scal_optv (a b : Option Wd) : scal (optv a) (optv b) = true := by cases a <;> cases b <;> rfl
theorem dec_optv (a b : Option Wd) : decide (optv a = optv b) = decide (a = b) := by
  by_cases h : a = b
  · subst h; simp
  · rw [decide_eq_false h, decide_eq_false fun z => h (optv_inj.mp z)]
theorem dec_int' (i j : Int) : decide (V.int i = V.int j) = decide (i = j) := by simp
def rAddW : R2 := fun x y H Q => ∃ a b : Wd, x = sv a ∧ y = sv b ∧ a.length + b.length ≤ 100000 ∧ Q (sv (a ++ b)) H
theorem op_addw : OpR X (binaryOp .Add) rAddW := OpR.imp op_add_str fun x y H Q ⟨a, b, hx, hy, hz, q⟩ => ⟨S a, S b, hx, hy, by rw [S_len, S_len]; exact sz hz, by rw [S_app]; exact q⟩
def rEqW : R2 := fun x y H Q => ∃ a b : Wd, x = sv a ∧ y = sv b ∧ Q (.bl (decide (a = b))) H
def rNeW : R2 := fun x y H Q => ∃ a b : Wd, x = sv a ∧ y = sv b ∧ Q (.bl (!decide (a = b))) H
theorem op_eqw : OpR X (compareOp .Eq) rEqW := OpR.imp op_eq fun x y H Q ⟨a, b, hx, hy, q⟩ => ⟨by rw [hx, hy]; rfl, by rw [hx, hy, dec_sv]; exact q⟩
theorem op_new : OpR X (compareOp .NotEq) rNeW := OpR.imp op_ne fun x y H Q ⟨a, b, hx, hy, q⟩ => ⟨by rw [hx, hy]; rfl, by rw [hx, hy, dec_sv]; exact q⟩
def rEqO : R2 := fun x y H Q => ∃ a b : Option Wd, x = optv a ∧ y = optv b ∧ Q (.bl (decide (a = b))) H
def rNeO : R2 := fun x y H Q => ∃ a b : Option Wd, x = optv a ∧ y = optv b ∧ Q (.bl (!decide (a = b))) H
theorem op_eqo : OpR X (compareOp .Eq) rEqO := OpR.imp op_eq fun x y H Q ⟨a, b, hx, hy, q⟩ => ⟨by rw [hx, hy]; exact scal_optv a b, by rw [hx, hy, dec_optv]; exact q⟩
theorem op_neo : OpR X (compareOp .NotEq) rNeO := OpR.imp op_ne fun x y H Q ⟨a, b, hx, hy, q⟩ => ⟨by rw [hx, hy]; exact scal_optv a b, by rw [hx, hy, dec_optv]; exact q⟩
def rEqN : R2 := fun x y H Q => ∃ i j : Int, x = .int i ∧ y = .int j ∧ Q (.bl (decide (i = j))) H
def rNeN : R2 := fun x y H Q => ∃ i j : Int, x = .int i ∧ y = .int j ∧ Q (.bl (!decide (i = j))) H
theorem op_eqn : OpR X (compareOp .Eq) rEqN := OpR.imp op_eq fun x y H Q ⟨a, b, hx, hy, q⟩ => ⟨by rw [hx, hy]; rfl, by rw [hx, hy, dec_int']; exact q⟩
theorem op_nen : OpR X (compareOp .NotEq) rNeN := OpR.imp op_ne fun x y H Q ⟨a, b, hx, hy, q⟩ => ⟨by rw [hx, hy]; rfl, by rw [hx, hy, dec_int']; exact q⟩
/-- len of a text, of a list -/
def rLenW : List V → Hp → VK → Prop := fun xs H Q => ∃ a : Wd, xs = [sv a] ∧ a.length ≤ 100000 ∧ Q (.int (a.length : Int)) H
theorem call_lenw : CallR X (.builtin "len") rLenW := CallR.imp call_len_str fun xs H Q ⟨a, e, hz, q⟩ => ⟨S a, e, szS hz, by rw [S_len]; exact q⟩
def rLenL (K : PySem.W.Frag) : List V → Hp → VK → Prop := fun xs H Q => ∃ p, xs = [.ref p] ∧ ∃ ys, SqL K H p ys ∧ Q (.int (ys.length : Int)) H
theorem call_lenl : CallR X (.builtin "len") (rLenL X.K) := CallR.imp call_len_seq fun xs H Q ⟨p, e, ys, h, q⟩ => ⟨p, ys, e, .inl h, q⟩
def rLenT (K : PySem.W.Frag) : List V → Hp → VK → Prop := fun xs H Q => ∃ p, xs = [.ref p] ∧ ∃ ys, SqT K H p ys ∧ Q (.int (ys.length : Int)) H
theorem call_lent : CallR X (.builtin "len") (rLenT X.K) := CallR.imp call_len_seq fun xs H Q ⟨p, e, ys, h, q⟩ => ⟨p, ys, e, .inr h, q⟩
/-- a text's slice -/
def cutW (a : Wd) (lo hi : Option Int) : Wd := (a.drop (HT.sIx a.length 0 lo)).take (HT.sIx a.length a.length hi - HT.sIx a.length 0 lo)
def rSlW : V → Option Int → Option Int → Hp → VK → Prop := fun x lo hi H Q => ∃ a : Wd, x = sv a ∧ a.length ≤ 100000 ∧ Q (sv (cutW a lo hi)) H
theorem sl_w : SlR X rSlW := SlR.imp sl_str fun x lo hi H Q ⟨a, e, hz, q⟩ => ⟨S a, e, szS hz, by rw [cutS_S]; exact q⟩
theorem cutW_from (a : Wd) (k : Nat) : cutW a (some (k : Int)) none = a.drop k := S_inj.mp ((cutS_S a _ _).symm.trans (cut_from a k))
theorem cutW_to (a : Wd) (k : Nat) : cutW a none (some (k : Int)) = a.take k := S_inj.mp ((cutS_S a _ _).symm.trans (cut_to a k))
theorem cutW_mid (a : Wd) (i k : Nat) : cutW a (some (i : Int)) (some ((i : Int) + (k : Int))) = (a.drop i).take k := S_inj.mp ((cutS_S a _ _).symm.trans (cut_mid a i k))
theorem cutW_len (a : Wd) (lo hi : Option Int) : (cutW a lo hi).length ≤ a.length := by
  unfold cutW
  rw [List.length_take, List.length_drop]; omega
/-- a text's sign, a list's item, a tuple's item -/
def rIxW : R2 := fun x y H Q => ∃ (a : Wd) (i : Int), x = sv a ∧ y = .int i ∧ a.length ≤ 100000 ∧ 0 ≤ i ∧ ∃ c, a[i.toNat]? = some c ∧ Q (sv [c]) H
theorem atI_toNat {α : Type} {xs : List α} {i : Int} {v : α} (h0 : 0 ≤ i) (h : xs[i.toNat]? = some v) : atI xs i = some v := by
  have := atI_nat (j := i.toNat) h
  rwa [Int.toNat_of_nonneg h0] at this
theorem ix_w : IxR X rIxW := IxR.imp ix_str fun x y H Q ⟨a, i, hx, hy, hz, h0, c, hc, q⟩ => ⟨S a, i, c, hx, hy, szS hz, by rw [S_cps]; exact atI_toNat h0 hc, q⟩
def rIxLn (K : PySem.W.Frag) : R2 := fun x y H Q => ∃ (p : Addr) (i : Int), x = .ref p ∧ y = .int i ∧ ∃ xs, SqL K H p xs ∧ 0 ≤ i ∧ ∃ v, xs[i.toNat]? = some v ∧ Q v H
theorem ix_l : IxR X (rIxLn X.K) := IxR.imp ix_list fun x y H Q ⟨p, i, hx, hy, xs, h, h0, v, hv, q⟩ => ⟨p, xs, i, v, hx, hy, h, atI_toNat h0 hv, q⟩
def rIxTn (K : PySem.W.Frag) : R2 := fun x y H Q => ∃ (p : Addr) (i : Int), x = .ref p ∧ y = .int i ∧ ∃ xs, SqT K H p xs ∧ 0 ≤ i ∧ ∃ v, xs[i.toNat]? = some v ∧ Q v H
theorem ix_t : IxR X (rIxTn X.K) := IxR.imp ix_tup fun x y H Q ⟨p, i, hx, hy, xs, h, h0, v, hv, q⟩ => ⟨p, xs, i, v, hx, hy, h, atI_toNat h0 hv, q⟩
/-- text.startswith(other), sep.join(list of texts) -/
def rStW : V → List V → Hp → VK → Prop := fun x xs H Q => ∃ a b : Wd, x = sv a ∧ xs = [sv b] ∧ Q (.bl (b.isPrefixOf a)) H
theorem mt_stw : MtR X "str.startswith" rStW := MtR.imp mt_startswith fun x xs H Q ⟨a, b, hx, hy, q⟩ => ⟨S a, S b, hx, hy, by rw [starts_S]; exact q⟩
theorem map_sv_len (ys : List Wd) : ((ys.map S).map (·.length)).sum = ys.flatten.length := by
  induction ys with
  | nil => rfl
  | cons x r ih => simp only [List.map_cons, List.sum_cons, List.flatten_cons, List.length_append, ih, S_len]
theorem map_sv (ys : List Wd) : (ys.map S).map V.str = ys.map sv := by rw [List.map_map]; rfl
def rJoW (K : PySem.W.Frag) : V → List V → Hp → VK → Prop := fun x xs H Q => ∃ p, x = sv [] ∧ xs = [.ref p] ∧ ∃ ys : List Wd, SqL K H p (ys.map sv) ∧ ys.flatten.length ≤ 100000 ∧ Q (sv ys.flatten) H
theorem mt_jow : MtR X "str.join" (rJoW X.K) := MtR.imp mt_join fun x xs H Q ⟨p, hx, hy, ys, h, hz, q⟩ => ⟨S [], p, ys.map S, hx, hy, .inl (by rw [map_sv]; exact h), by rw [map_sv_len, S_len]; show ys.flatten.length + _ * 0 ≤ _; omega, by rw [join_S]; exact q⟩
/-- a text in a list of texts -/
def rInW (K : PySem.W.Frag) (neg : Bool) : R2 := fun x y H Q => ∃ (a : Wd) (p : Addr), x = sv a ∧ y = .ref p ∧ ∃ xs : List Wd, SqL K H p (xs.map sv) ∧ Q (.bl (if neg then !decide (a ∈ xs) else decide (a ∈ xs))) H
theorem inV_sv (a : Wd) (xs : List Wd) : inV (sv a) (xs.map sv) = decide (a ∈ xs) := by
  unfold inV
  rw [List.any_map, Bool.eq_iff_iff, List.any_eq_true, decide_eq_true_iff]
  constructor
  · rintro ⟨x, hx, e⟩
    have e2 : (S x == S a) = true := e
    have e3 : S x = S a := by simpa using e2
    rw [← S_inj.mp e3]; exact hx
  · intro h
    exact ⟨a, h, by show (S a == S a) = true; simp⟩
theorem flat_sv (xs : List Wd) : (xs.map sv).all flatV = true := by
  rw [List.all_eq_true]
  intro v hv
  obtain ⟨a, _, rfl⟩ := List.mem_map.mp hv
  rfl
theorem op_inw : OpR X (compareOp .In) (rInW X.K false) := OpR.imp op_in_seq fun x y H Q ⟨a, p, hx, hy, xs, h, q⟩ => ⟨p, xs.map sv, hy, .inl h, by rw [hx]; rfl, flat_sv xs, by rw [hx, inV_sv]; exact q⟩
theorem op_niw : OpR X (compareOp .NotIn) (rInW X.K true) := OpR.imp op_notIn_seq fun x y H Q ⟨a, p, hx, hy, xs, h, q⟩ => ⟨p, xs.map sv, hy, .inl h, by rw [hx]; rfl, flat_sv xs, by rw [hx, inV_sv]; exact q⟩
/-- one sign in a text -/
def rInG (neg : Bool) : R2 := fun x y H Q => ∃ (c : Nat) (a : Wd), x = sv [c] ∧ y = sv a ∧ Q (.bl (if neg then !decide (c ∈ a) else decide (c ∈ a))) H
theorem op_ing : OpR X (compareOp .In) (rInG false) := OpR.imp op_in_sign fun x y H Q ⟨c, a, hx, hy, q⟩ => ⟨c, S a, hx, hy, by rw [S_cps]; exact q⟩
theorem op_nig : OpR X (compareOp .NotIn) (rInG true) := OpR.imp op_notIn_sign fun x y H Q ⟨c, a, hx, hy, q⟩ => ⟨c, S a, hx, hy, by rw [S_cps]; exact q⟩
end

/-! ### answers -/
/-- a value, the heap has grown at most; a new list; a new tuple -/
def Ret (H : Hp) (Q : VK) (v : V) : Prop := ∀ H', Same H H' → Q v H'
def RetL (H : Hp) (Q : VK) (xs : List V) : Prop := ∀ p H', Same H H' → H p = none → H' p = some (.lst xs) → Q (.ref p) H'
def RetT (H : Hp) (Q : VK) (xs : List V) : Prop := ∀ p H', Same H H' → H p = none → H' p = some (.tup xs) → Q (.ref p) H'
theorem Ret.mono {H H1 : Hp} {Q : VK} {v : V} (e : Same H H1) (r : Ret H Q v) : Ret H1 Q v := fun H' e' => r H' (e.trans e')
theorem RetL.mono {H H1 : Hp} {Q : VK} {xs : List V} (e : Same H H1) (r : RetL H Q xs) : RetL H1 Q xs := fun p H' e' hp h => r p H' (e.trans e') (e.free hp) h
theorem RetT.mono {H H1 : Hp} {Q : VK} {xs : List V} (e : Same H H1) (r : RetT H Q xs) : RetT H1 Q xs := fun p H' e' hp h => r p H' (e.trans e') (e.free hp) h
theorem RetT.at {H H1 : Hp} {Q : VK} {xs : List V} (r : RetT H Q xs) (e : Same H H1) {p : Addr} (hp : H1 p = none) : Q (.ref p) (upd H1 p (.tup xs)) := r p _ (e.trans (new hp)) (e.free hp) upd_same
theorem RetL.at {H H1 : Hp} {Q : VK} {xs : List V} (r : RetL H Q xs) (e : Same H H1) {p : Addr} (hp : H1 p = none) : Q (.ref p) (upd H1 p (.lst xs)) := r p _ (e.trans (new hp)) (e.free hp) upd_same
/-! ### ways -/
theorem itd {p A B : Prop} [Decidable p] (h1 : p → A) (h2 : ¬ p → B) : if decide p = true then A else B := by
  by_cases h : p
  · rw [if_pos (decide_eq_true h)]; exact h1 h
  · rw [if_neg (by simpa using h)]; exact h2 h
theorem itn {p A B : Prop} [Decidable p] (h1 : ¬ p → A) (h2 : p → B) : if (!decide p) = true then A else B := by
  by_cases h : p
  · rw [if_neg (by simpa using h)]; exact h2 h
  · rw [if_pos (by simpa using h)]; exact h1 h
theorem itb {b : Bool} {A B : Prop} (h1 : b = true → A) (h2 : b = false → B) : if b = true then A else B := by
  cases b
  · exact h2 rfl
  · exact h1 rfl
theorem itnb {b : Bool} {A B : Prop} (h1 : b = false → A) (h2 : b = true → B) : if (!b) = true then A else B := by
  cases b
  · exact h1 rfl
  · exact h2 rfl

/-! ### loops -/
section
variable {K : PySem.W.Frag} {a : Addr} {g : TG} {tb : TS} {D : Ends} {σ : L2.St} {H : Hp}
/-- over a list of texts that stays: Pv by what was taken -/
theorem for_ws {xs : List Wd} {j : Nat} (hS : SqL K H a (xs.map sv)) (Pv : List Wd → L2.St → Hp → Prop) (h0 : Pv [] σ H) (hm : ∀ pre σ' H', Pv pre σ' H' → Same H H')
    (hs : ∀ pre x post σ' H', xs = pre ++ x :: post → Pv pre σ' H' → tb { D with nx := Pv (pre ++ [x]), ct := Pv (pre ++ [x]), bk := D.nx } (σ'.set j (some (sv x))) H') (hd : ∀ σ' H', Pv xs σ' H' → D.nx σ' H') :
    ∃ W : Nat → Nat → L2.St → Hp → Prop, (∃ m, W 0 m σ H) ∧ ∀ i m σ H, W i m σ H →
      ((Itl K a).stop i H ∧ D.nx σ H) ∨ ((Itl K a).go i H ∧ ∃ N : L2.St → Hp → Prop, (∀ σ' H', N σ' H' → ∃ m', m' < m ∧ W (i + 1) m' σ' H') ∧ ∀ x H', (Itl K a).yld i H x H' → gName j x σ H' fun σ2 H2 => tb { D with nx := N, ct := N, bk := D.nx } σ2 H2) := by
  refine for_list (xs := xs.map sv) (fun i σ' H' => Pv (xs.take i) σ' H') (by rw [List.take_zero]; exact h0) (fun i σ' H' _ p => (hm _ _ _ p).seq hS) (fun i x σ' H' hx p => ?_) (fun σ' H' p => hd σ' H' (by rw [List.length_map, List.take_length] at p; exact p))
  rw [List.getElem?_map] at hx
  cases e : xs[i]? with
  | none => rw [e] at hx; cases hx
  | some y =>
    rw [e] at hx
    obtain rfl : sv y = x := Option.some.inj hx
    have hi : i < xs.length := (List.getElem?_eq_some_iff.mp e).1
    have ey : xs[i] = y := (List.getElem?_eq_some_iff.mp e).2
    have e1 : xs = xs.take i ++ y :: xs.drop (i + 1) := by
      rw [← ey, List.getElem_cons_drop, List.take_append_drop]
    have e2 : xs.take (i + 1) = xs.take i ++ [y] := by rw [List.take_add_one, e]; rfl
    show tb { D with nx := fun σ' H' => Pv (xs.take (i + 1)) σ' H', ct := fun σ' H' => Pv (xs.take (i + 1)) σ' H', bk := D.nx } (σ'.set j (some (sv y))) H'
    rw [e2]
    exact hs _ y _ σ' H' e1 p
end
/-! ### comprehensions whose element makes no object that is kept -/
/-- te gives v from any heap that has grown from H -/
def EvV (te : TE) (σ : L2.St) (H : Hp) (v : V) : Prop := ∀ H1, Same H H1 → ∀ Q : VK, (∀ H2, Same H1 H2 → Q v H2) → te σ H1 Q
def EvB (tt : TT) (σ : L2.St) (H : Hp) (b : Bool) : Prop := ∀ H1, Same H H1 → ∀ Q : Bool → Hp → Prop, (∀ H2, Same H1 H2 → Q b H2) → tt σ H1 Q
section
variable {K : PySem.W.Frag} {a : Addr} {tt : TT} {te : TE} {σ : L2.St} {H1 : Hp} {D : Addr} {Qd : Hp → Prop}
theorem wipe1 (σ : L2.St) (j : Nat) (v : Option V) : wipe ((wipe σ [j]).set j v) [j] = wipe σ [j] := by
  show ((σ.set j none).set j v).set j none = σ.set j none
  rw [List.set_set, List.set_set]
/-- over a list of values that stays -/
theorem lc_vals {xs : List V} {j : Nat} (c : V → Bool) (y : V → V) (hD : H1 D = none) (hS : SqL K H1 a xs) (hz : xs.length ≤ 100000)
    (ht : ∀ x ∈ xs, EvB tt ((wipe σ [j]).set j (some x)) H1 (c x)) (he : ∀ x ∈ xs, c x = true → EvV te ((wipe σ [j]).set j (some x)) H1 (y x))
    (hd : ∀ H', Same H1 H' → H' D = some (.lst ((xs.filter c).map y)) → Qd H') :
    ∃ W : Nat → Nat → Hp → Prop, (∃ m, W 0 m (upd H1 D (.lst []))) ∧ ∀ i m H, W i m H →
      ((Itl K a).stop i H ∧ Qd H) ∨ ((Itl K a).go i H ∧ ∃ Nx : Hp → Prop, (∀ H', Nx H' → ∃ m', m' < m ∧ W (i + 1) m' H') ∧ ∀ x H', (Itl K a).yld i H x H' → gName j x (wipe σ [j]) H' fun σ2 H2 => wipe σ2 [j] = wipe σ [j] ∧ tt σ2 H2 fun b H3 =>
        if b = true then te σ2 H3 fun y H4 => ∃ acc, H4 D = some (.lst acc) ∧ acc.length < sizeLine ∧ Nx (upd H4 D (.lst (acc ++ [y]))) else Nx H3) := by
  refine lc_list (K := K) (a := a) (xs := xs) (fun i H => Same H1 H ∧ H D = some (.lst (((xs.take i).filter c).map y))) ⟨new hD, upd_same⟩ (fun i H _ p => p.1.seq hS) (fun i x H hx p => ?_) (fun H p => hd H p.1 (by rw [List.take_length] at p; exact p.2))
  have hm : x ∈ xs := List.mem_of_getElem? hx
  have e2 : xs.take (i + 1) = xs.take i ++ [x] := by rw [List.take_add_one, hx]; rfl
  refine ⟨wipe1 σ j _, ht x hm H p.1 _ fun H2 s2 => ?_⟩
  refine itb (fun hc => ?_) fun hc => ?_
  · refine he x hm hc H2 (p.1.trans s2) _ fun H3 s3 => ⟨_, s3 _ _ (s2 _ _ p.2), ?_, mutd ((p.1.trans s2).trans s3) hD, ?_⟩
    · refine szl ?_
      rw [List.length_map]
      have h1 := List.length_filter_le c (xs.take i)
      have h2 : i < xs.length := (List.getElem?_eq_some_iff.mp hx).1
      rw [List.length_take] at h1
      omega
    · rw [upd_same, e2, List.filter_append, List.map_append, List.filter_cons, if_pos hc]; rfl
  · refine ⟨p.1.trans s2, ?_⟩
    rw [s2 _ _ p.2, e2, List.filter_append, List.filter_cons, if_neg (by rw [hc]; decide)]
    simp
/-- over a range, no test -/
theorem lc_rng {lo : Int} {n j : Nat} (y : Nat → V) (hD : H1 D = none) (hz : n ≤ 100000)
    (he : ∀ i, i < n → EvV te ((wipe σ [j]).set j (some (.int (lo + (i : Nat))))) H1 (y i))
    (hd : ∀ H', Same H1 H' → H' D = some (.lst ((List.range n).map y)) → Qd H') :
    ∃ W : Nat → Nat → Hp → Prop, (∃ m, W 0 m (upd H1 D (.lst []))) ∧ ∀ i m H, W i m H →
      ((Itr lo n).stop i H ∧ Qd H) ∨ ((Itr lo n).go i H ∧ ∃ Nx : Hp → Prop, (∀ H', Nx H' → ∃ m', m' < m ∧ W (i + 1) m' H') ∧ ∀ x H', (Itr lo n).yld i H x H' → gName j x (wipe σ [j]) H' fun σ2 H2 => wipe σ2 [j] = wipe σ [j] ∧ tYes σ2 H2 fun b H3 =>
        if b = true then te σ2 H3 fun y H4 => ∃ acc, H4 D = some (.lst acc) ∧ acc.length < sizeLine ∧ Nx (upd H4 D (.lst (acc ++ [y]))) else Nx H3) := by
  refine lc_range (lo := lo) (n := n) (fun i H => Same H1 H ∧ H D = some (.lst ((List.range i).map y))) ⟨new hD, upd_same⟩ (fun i H hi p => ?_) (fun H p => hd H p.1 p.2)
  refine ⟨wipe1 σ j _, ?_⟩
  refine he i hi H p.1 _ fun H3 s3 => ⟨_, s3 _ _ p.2, ?_, mutd (p.1.trans s3) hD, ?_⟩
  · refine szl ?_
    rw [List.length_map, List.length_range]; omega
  · rw [upd_same, List.range_succ, List.map_append]; rfl
end
end One


/-! ### isinstance of what a value is -/
namespace One
open PySem PySem.Spec PyProof.Rows L2
inductive Ty where | non | bl | int | str | lst | tup | dict
def Ty.nm : Ty → String
  | .non => "NoneType" | .bl => "bool" | .int => "int" | .str => "str" | .lst => "list" | .tup => "tuple" | .dict => "dict"
def Ty.is : Ty → Ty → Bool
  | .bl, .int => true
  | .non, .non => true | .bl, .bl => true | .int, .int => true | .str, .str => true | .lst, .lst => true | .tup, .tup => true | .dict, .dict => true
  | _, _ => false
theorem kit_all : ∀ t n : Ty, kitB t.nm n.nm = some (t.is n)
  | .non, .non => by decide +kernel | .non, .bl => by decide +kernel | .non, .int => by decide +kernel | .non, .str => by decide +kernel | .non, .lst => by decide +kernel | .non, .tup => by decide +kernel | .non, .dict => by decide +kernel
  | .bl, .non => by decide +kernel | .bl, .bl => by decide +kernel | .bl, .int => by decide +kernel | .bl, .str => by decide +kernel | .bl, .lst => by decide +kernel | .bl, .tup => by decide +kernel | .bl, .dict => by decide +kernel
  | .int, .non => by decide +kernel | .int, .bl => by decide +kernel | .int, .int => by decide +kernel | .int, .str => by decide +kernel | .int, .lst => by decide +kernel | .int, .tup => by decide +kernel | .int, .dict => by decide +kernel
  | .str, .non => by decide +kernel | .str, .bl => by decide +kernel | .str, .int => by decide +kernel | .str, .str => by decide +kernel | .str, .lst => by decide +kernel | .str, .tup => by decide +kernel | .str, .dict => by decide +kernel
  | .lst, .non => by decide +kernel | .lst, .bl => by decide +kernel | .lst, .int => by decide +kernel | .lst, .str => by decide +kernel | .lst, .lst => by decide +kernel | .lst, .tup => by decide +kernel | .lst, .dict => by decide +kernel
  | .tup, .non => by decide +kernel | .tup, .bl => by decide +kernel | .tup, .int => by decide +kernel | .tup, .str => by decide +kernel | .tup, .lst => by decide +kernel | .tup, .tup => by decide +kernel | .tup, .dict => by decide +kernel
  | .dict, .non => by decide +kernel | .dict, .bl => by decide +kernel | .dict, .int => by decide +kernel | .dict, .str => by decide +kernel | .dict, .lst => by decide +kernel | .dict, .tup => by decide +kernel | .dict, .dict => by decide +kernel
inductive TyW (H : Hp) : V → Ty → Prop where
  | non : TyW H .non .non
  | bl (b : Bool) : TyW H (.bl b) .bl
  | int (i : Int) : TyW H (.int i) .int
  | str (x : Str) : TyW H (.str x) .str
  | lst {p : Addr} {xs : List V} (h : H p = some (.lst xs)) : TyW H (.ref p) .lst
  | tup {p : Addr} {xs : List V} (h : H p = some (.tup xs)) : TyW H (.ref p) .tup
  | dict {p : Addr} {kvs : List (Key × V)} (h : H p = some (.dK kvs)) : TyW H (.ref p) .dict
theorem TyW.of {K : PySem.W.Frag} {H : Hp} {x : V} {t : Ty} (h : TyW H x t) : TyX K H x (.type t.nm) := by
  cases h with
  | non => exact .base .non
  | bl b => exact .base (.bl b)
  | int i => exact .base (.int i)
  | str x => exact .base (.str x)
  | lst h => exact .base (.lst h)
  | tup h => exact .base (.tup h)
  | dict h => exact .base (.dK h)
def rIs (n : Ty) : List V → Hp → VK → Prop := fun xs H Q => ∃ x, xs = [x, .ty n.nm] ∧ ∃ t, TyW H x t ∧ Q (.bl (t.is n)) H
theorem call_is {X : Cx} (n : Ty) : CallR X (.builtin "isinstance") (rIs n) := CallR.imp call_isi fun xs H Q ⟨x, e, t, h, q⟩ => ⟨x, .ty n.nm, .type t.nm, .type n.nm, t.is n, e, .ty _, h.of, kit_ty (kit_all t n), q⟩
theorem pe_ty {X : Cx} {x : Str} {pos : Pos} (n : Ty) (hg : Gl X x) (hm : X.mg x = none) (hv : bootBuiltins x = some (.type n.nm)) (hn : x ≠ "__name__" := by decide) (hd : (x == ("__debug__" : Str)) = false := by decide) : PE X (.Name x pos) (tC (.ty n.nm)) := pe_bltn hg hm hv rfl hn hd
theorem pick {α : Type} {xs : List α} {i : Int} (h0 : 0 ≤ i) (h1 : i < xs.length) : ∃ v, v ∈ xs ∧ xs[i.toNat]? = some v := by
  have h : i.toNat < xs.length := by omega
  exact ⟨xs[i.toNat], List.getElem_mem h, List.getElem?_eq_getElem h⟩
theorem flat1 {α β : Type} (f : α → β) (xs : List α) : (xs.map fun i => [f i]).flatten = xs.map f := by
  induction xs with
  | nil => rfl
  | cons x r ih => simp only [List.map_cons, List.flatten_cons, ih]; rfl
theorem cutW_toI (a : Wd) {x : Int} (h : 0 ≤ x) : cutW a none (some x) = a.take x.toNat := by
  have := cutW_to a x.toNat
  rwa [Int.toNat_of_nonneg h] at this
theorem cutW_fromI (a : Wd) {x : Int} (h : 0 ≤ x) : cutW a (some x) none = a.drop x.toNat := by
  have := cutW_from a x.toNat
  rwa [Int.toNat_of_nonneg h] at this
theorem cut_two (a : Wd) {x : Int} (h : 0 ≤ x) : (cutW a none (some x)).length + (cutW a (some (x + 1)) none).length ≤ a.length := by
  rw [cutW_toI a h, cutW_fromI a (by omega), List.length_take, List.length_drop]
  omega
def ABC : Wd := [97, 98, 99, 100, 101, 102, 103, 104, 105, 106, 107, 108, 109, 110, 111, 112, 113, 114, 115, 116, 117, 118, 119, 120, 121, 122]
theorem pe_globw {X : Cx} {x : Str} {z : Str} {pos : Pos} (a : Wd) (h : z = S a) (hm : ∃ t, X.mg x = some (.str z t)) (hg : Gl X x) (hd : (x == ("__debug__" : Str)) = false := by decide) : PE X (.Name x pos) (tC (sv a)) := by
  obtain ⟨t, hm⟩ := hm
  exact pe_glob hg hm ⟨t, by rw [h]⟩ hd
theorem pe_globi {X : Cx} {x : Str} {i : Int} {pos : Pos} (hm : ∃ t, X.mg x = some (.int i t)) (hg : Gl X x) (hd : (x == ("__debug__" : Str)) = false := by decide) : PE X (.Name x pos) (tC (.int i)) := by
  obtain ⟨t, hm⟩ := hm
  exact pe_glob hg hm ⟨t, rfl⟩ hd
end One
namespace One
open PySem PySem.Spec PyProof.Rows L2
section
variable {K : PySem.W.Frag} {a : Addr} {g : TG} {tb : TS} {D : Ends} {σ : L2.St} {H : Hp}
/-- over a list that stays, nothing that stood is changed: Pv by the turn and the slots -/
theorem for_g {xs : List V} (hS : SqL K H a xs) (Pv : Nat → L2.St → Prop) (h0 : Pv 0 σ)
    (hs : ∀ i x σ' H', xs[i]? = some x → Pv i σ' → Same H H' → g x σ' H' fun σ2 H2 => tb { D with nx := fun σ'' H'' => Pv (i + 1) σ'' ∧ Same H H'', ct := fun σ'' H'' => Pv (i + 1) σ'' ∧ Same H H'', bk := D.nx } σ2 H2)
    (hd : ∀ σ' H', Pv xs.length σ' → Same H H' → D.nx σ' H') :
    ∃ W : Nat → Nat → L2.St → Hp → Prop, (∃ m, W 0 m σ H) ∧ ∀ i m σ H, W i m σ H →
      ((Itl K a).stop i H ∧ D.nx σ H) ∨ ((Itl K a).go i H ∧ ∃ N : L2.St → Hp → Prop, (∀ σ' H', N σ' H' → ∃ m', m' < m ∧ W (i + 1) m' σ' H') ∧ ∀ x H', (Itl K a).yld i H x H' → g x σ H' fun σ2 H2 => tb { D with nx := N, ct := N, bk := D.nx } σ2 H2) :=
  for_list (xs := xs) (fun i σ' H' => Pv i σ' ∧ Same H H') ⟨h0, Same.refl _⟩ (fun _ _ _ _ p => p.2.seq hS) (fun i x σ' H' hx p => hs i x σ' H' hx p.1 p.2) (fun σ' H' p => hd σ' H' p.1 p.2)
end
end One
namespace One
open PySem PySem.Spec PyProof.Rows L2
theorem new_at {H : Hp} {p b : Addr} {o u : HO} (h : H p = none) (e : H b = some u) : upd H p o b = some u := new h b u e
theorem upd_at {H : Hp} {p b : Addr} {o u : HO} (h : b ≠ p) (e : H b = some u) : upd H p o b = some u := by rw [upd_ne h]; exact e
theorem upd_snoc {H : Hp} {p : Addr} {xs : List Wd} {a : Wd} : upd H p (.lst (xs.map sv ++ [sv a])) p = some (.lst ((xs ++ [a]).map sv)) := by rw [upd_same, List.map_append]; rfl
theorem upd_nil {H : Hp} {p : Addr} : upd H p (.lst []) p = some (.lst (List.map sv [])) := upd_same
/-- something lives at l, nothing at p -/
theorem ne_free {H : Hp} {p l : Addr} {u : HO} (h : H p = none) (e : H l = some u) : p ≠ l := fun z => by rw [← z, h] at e; cases e
theorem same_at {H H' : Hp} {b : Addr} {u : HO} (s : Same H H') (e : H b = some u) : H' b = some u := s b u e
end One
namespace One
open PySem PySem.Spec PyProof.Rows L2
def rCatL : R2 := fun x y H Q => ∃ (l b : Addr), x = .ref l ∧ y = .ref b ∧ ∃ xs, H l = some (.lst xs) ∧ ∃ zs, H b = some (.lst zs) ∧ xs.length + zs.length ≤ 100000 ∧ ∀ p, H p = none → Q (.ref p) (upd H p (.lst (xs ++ zs)))
theorem op_catl {X : Cx} : OpR X (binaryOp .Add) rCatL := OpR.imp op_cat fun x y H Q ⟨l, b, hx, hy, xs, h1, zs, h2, hz, q⟩ => ⟨l, b, xs, zs, hx, hy, h1, h2, sz hz, q⟩
end One
namespace One
open PySem PySem.Spec PyProof.Rows L2
/-! ### == of data -/
def okD (d : PyData) : Bool := d.plain && decide (d.depth ≤ 8)
def rEqP (K : PySem.W.Frag) : R2 := fun x y H Q => ∃ d, Dp K H x d ∧ okD d = true ∧ ∃ e, Dp K H y e ∧ okD e = true ∧ Q (.bl (PyData.eqv d e)) H
def rNeP (K : PySem.W.Frag) : R2 := fun x y H Q => ∃ d, Dp K H x d ∧ okD d = true ∧ ∃ e, Dp K H y e ∧ okD e = true ∧ Q (.bl (!PyData.eqv d e)) H
theorem eqv_self {d : PyData} (h : okD d = true) : PyData.eqv d d = true := SeqAt.eqv_refl_plain d (Bool.and_eq_true_iff.mp h).1
example (x : Str) (b : Bool) : okD (.tuple [.str x, .bool b]) = true := rfl
example (x : Str) (b : Bool) : okD (.tuple [.str x, .bool b, .list []]) = true := by rfl
example (x y : Str) (b : Bool) : PyData.eqv (.tuple [.str x, .bool b]) (.tuple [.str y, .bool b]) = ((x == y) && ((b == b) && true)) := by rfl
theorem op_eqp {X : Cx} (hu : X.A.units + 64 < cLine) : OpR X (compareOp .Eq) (rEqP X.K) := by
  intro pins s σ H x y v u Q I rx ry h
  obtain ⟨d, hd, sd, e, he, se, q⟩ := h
  obtain ⟨as, r1⟩ := Dp.reads I d x v hd rx
  obtain ⟨bs, r2⟩ := Dp.reads I e y u he ry
  have h1 := Bool.and_eq_true_iff.mp sd
  have h2 := Bool.and_eq_true_iff.mp se
  have d1 := of_decide_eq_true h1.2
  exact SeqAt.eq_plain r1 r2 h1.1 h2.1 (by have := Nat.min_le_left d.depth e.depth; omega) ⟨.bl _, H, I, rfl, q⟩
theorem op_nep {X : Cx} (hu : X.A.units + 64 < cLine) : OpR X (compareOp .NotEq) (rNeP X.K) := by
  intro pins s σ H x y v u Q I rx ry h
  obtain ⟨d, hd, sd, e, he, se, q⟩ := h
  obtain ⟨as, r1⟩ := Dp.reads I d x v hd rx
  obtain ⟨bs, r2⟩ := Dp.reads I e y u he ry
  have h1 := Bool.and_eq_true_iff.mp sd
  have h2 := Bool.and_eq_true_iff.mp se
  have d1 := of_decide_eq_true h1.2
  exact SeqAt.ne_plain r1 r2 h1.1 h2.1 (by have := Nat.min_le_left d.depth e.depth; omega) ⟨.bl _, H, I, rfl, q⟩
abbrev sd (a : Wd) : PyData := .str (S a)
theorem eqvAll_strs : ∀ xs ys : List Wd, PyData.eqvAll (xs.map sd) (ys.map sd) = decide (xs = ys)
  | [], [] => rfl
  | [], _ :: _ => by simp [PyData.eqvAll]
  | _ :: _, [] => by simp [PyData.eqvAll]
  | x :: xs, y :: ys => by
    have e : (S x == S y) = decide (x = y) := by
      by_cases h : x = y
      · subst h; simp
      · rw [decide_eq_false h]; simpa using fun z => h (S_inj.mp z)
    simp only [List.map_cons, PyData.eqvAll, PyData.eqv, e, eqvAll_strs xs ys, List.cons.injEq, Bool.decide_and]
theorem eqv_strs (xs ys : List Wd) : PyData.eqv (.list (xs.map sd)) (.list (ys.map sd)) = decide (xs = ys) := by
  rw [← eqvAll_strs xs ys]; simp only [PyData.eqv]
theorem plain_strs : ∀ xs : List Wd, PyData.plainAll (xs.map sd) = true
  | [] => rfl
  | x :: r => by simp only [List.map_cons, PyData.plainAll, PyData.plain, plain_strs r, Bool.and_self]
theorem depth_strs : ∀ xs : List Wd, PyData.depthAll (xs.map sd) = 0
  | [] => rfl
  | x :: r => by simp only [List.map_cons, PyData.depthAll, PyData.depth, depth_strs r, Nat.max_self]
theorem ok_strs (xs : List Wd) : okD (.list (xs.map sd)) = true := by
  unfold okD
  simp only [PyData.plain, PyData.depth, plain_strs, depth_strs]
  decide
end One

namespace One
open PySem PySem.Spec PyProof.Rows L2
/-! ### lists: slices, the last item, append -/
def rSlLn (K : PySem.W.Frag) : V → Option Int → Option Int → Hp → VK → Prop := fun x lo hi H Q => ∃ a, x = .ref a ∧ ∃ xs, SqL K H a xs ∧ ∀ p, H p = none → Q (.ref p) (upd H p (.lst (cutV xs lo hi)))
theorem sl_l {X : Cx} : SlR X (rSlLn X.K) := SlR.imp sl_list fun x lo hi H Q ⟨a, e, xs, h, q⟩ => ⟨a, xs, e, h, q⟩
def rSlTn (K : PySem.W.Frag) : V → Option Int → Option Int → Hp → VK → Prop := fun x lo hi H Q => ∃ a, x = .ref a ∧ ∃ xs, SqT K H a xs ∧
  ¬ (HT.sIx xs.length 0 lo = 0 ∧ HT.sIx xs.length xs.length hi = xs.length) ∧ ∀ p, H p = none → Q (.ref p) (upd H p (.tup (cutV xs lo hi)))
theorem sl_t {X : Cx} : SlR X (rSlTn X.K) := SlR.imp sl_tup fun x lo hi H Q ⟨a, e, xs, h, n, q⟩ => ⟨a, xs, e, h, n, q⟩
theorem cutV_toI {xs : List V} {x : Int} (h : 0 ≤ x) : cutV xs none (some x) = xs.take x.toNat := by
  unfold cutV
  rw [HT.sIx_none, ← Int.toNat_of_nonneg h, HT.sIx_nat, List.drop_zero, Nat.sub_zero, Int.toNat_natCast]
  by_cases h2 : x.toNat ≤ xs.length
  · rw [Nat.min_eq_left h2]
  · rw [Nat.min_eq_right (by omega), List.take_of_length_le (Nat.le_refl _), List.take_of_length_le (by omega)]
theorem cutV_fromI {xs : List V} {x : Int} (h : 0 ≤ x) : cutV xs (some x) none = xs.drop x.toNat := by
  unfold cutV
  rw [HT.sIx_none, ← Int.toNat_of_nonneg h, HT.sIx_nat, Int.toNat_natCast]
  by_cases h2 : x.toNat ≤ xs.length
  · rw [Nat.min_eq_left h2, List.take_of_length_le]
    rw [List.length_drop]; exact Nat.le_refl _
  · rw [Nat.min_eq_right (by omega), List.drop_of_length_le (Nat.le_refl _), List.drop_of_length_le (by omega), List.take_nil]
def rIxLm (K : PySem.W.Frag) : R2 := fun x y H Q => ∃ p, x = .ref p ∧ y = .int (-1) ∧ ∃ xs, SqL K H p xs ∧ ∃ v, xs.getLast? = some v ∧ Q v H
theorem atI_m1 {xs : List V} {v : V} (h : xs.getLast? = some v) : atI xs (-1) = some v := by
  cases xs with
  | nil => simp at h
  | cons x r =>
    have e := List.dropLast_concat_getLast (List.cons_ne_nil x r)
    rw [← e]
    have : v = (x :: r).getLast (List.cons_ne_nil x r) := by
      rw [List.getLast?_eq_some_getLast (List.cons_ne_nil x r)] at h
      exact (Option.some.inj h).symm
    rw [this]
    exact atI_last _ _
theorem ix_lm {X : Cx} : IxR X (rIxLm X.K) := IxR.imp ix_list fun x y H Q ⟨p, hx, hy, xs, h, v, hv, q⟩ => ⟨p, xs, -1, v, hx, hy, h, atI_m1 hv, q⟩
def rApp : V → List V → Hp → VK → Prop := fun x vs H Q => ∃ l y, x = .ref l ∧ vs = [y] ∧ ∃ xs, H l = some (.lst xs) ∧ xs.length < 16000000 ∧ Q .non (upd H l (.lst (xs ++ [y])))
theorem MtM.imp {X : Cx} {id : String} {r r' : V → List V → Hp → VK → Prop} (h : MtM X id r) (i : ∀ x xs H Q, r' x xs H Q → r x xs H Q) : MtM X id r' := fun pins s σ H x xs v us Q I rx rs q => h pins s σ H x xs v us Q I rx rs (i _ _ _ _ q)
theorem mt_app {X : Cx} : MtM X "list.append" rApp := MtM.imp mt_append fun x vs H Q ⟨l, y, hx, hv, xs, h, hz, q⟩ => ⟨l, xs, y, hx, hv, h, Nat.lt_of_lt_of_le hz (by decide), q⟩
theorem tyL {K : PySem.W.Frag} {H : Hp} {p : Addr} {xs : List V} (h : SqL K H p xs) : tyV K "list" (.ref p) H := .inl ⟨rfl, _, h⟩
def rListOf (K : PySem.W.Frag) : List V → Hp → VK → Prop := fun xs H Q => ∃ p, xs = [.ref p] ∧ ∃ ys, SqL K H p ys ∧ ∀ l, H l = none → Q (.ref l) (upd H l (.lst ys))
theorem call_listl {X : Cx} : CallR X (.type "list") (rListOf X.K) := CallR.imp call_list_of fun xs H Q ⟨p, e, ys, h, q⟩ => ⟨p, ys, e, .inl h, q⟩
/-- [x, ..] * n -/
def rRepN : R2 := fun x y H Q => ∃ (l : Addr) (k : Int), x = .ref l ∧ y = .int k ∧ ∃ v, H l = some (.lst [v]) ∧ 0 ≤ k ∧ k ≤ 100000 ∧ ∀ p, H p = none → Q (.ref p) (upd H p (.lst (List.replicate k.toNat v)))
theorem op_repn {X : Cx} : OpR X (binaryOp .Mult) rRepN := OpR.imp op_rep fun x y H Q ⟨l, k, hx, hy, v, h, h0, h1, q⟩ => ⟨l, k, [v], hx, hy, h, by omega, by omega, sz (by show 1 * _ ≤ _; omega), by
  have e : (List.replicate k.toNat [v]).flatten = List.replicate k.toNat v := by
    generalize k.toNat = n
    induction n with
    | zero => rfl
    | succ n ih => rw [List.replicate_succ, List.flatten_cons, ih, List.replicate_succ]; rfl
  rw [e]; exact q⟩
section
variable {K : PySem.W.Frag} {a : Addr} {g : TG} {tb : TS} {D : Ends} {σ : L2.St} {H : Hp}
/-- over a list of texts that stays: Pv by what was taken -/
theorem for_wl {xs : List Wd} {j : Nat} (Pv : List Wd → L2.St → Hp → Prop) (h0 : Pv [] σ H) (hl : ∀ pre σ' H', Pv pre σ' H' → SqL K H' a (xs.map sv))
    (hs : ∀ pre x post σ' H', xs = pre ++ x :: post → Pv pre σ' H' → tb { D with nx := Pv (pre ++ [x]), ct := Pv (pre ++ [x]), bk := D.nx } (σ'.set j (some (sv x))) H') (hd : ∀ σ' H', Pv xs σ' H' → D.nx σ' H') :
    ∃ W : Nat → Nat → L2.St → Hp → Prop, (∃ m, W 0 m σ H) ∧ ∀ i m σ H, W i m σ H →
      ((Itl K a).stop i H ∧ D.nx σ H) ∨ ((Itl K a).go i H ∧ ∃ N : L2.St → Hp → Prop, (∀ σ' H', N σ' H' → ∃ m', m' < m ∧ W (i + 1) m' σ' H') ∧ ∀ x H', (Itl K a).yld i H x H' → gName j x σ H' fun σ2 H2 => tb { D with nx := N, ct := N, bk := D.nx } σ2 H2) := by
  refine for_list (xs := xs.map sv) (fun i σ' H' => Pv (xs.take i) σ' H') (by rw [List.take_zero]; exact h0) (fun i σ' H' _ p => hl _ _ _ p) (fun i x σ' H' hx p => ?_) (fun σ' H' p => hd σ' H' (by rw [List.length_map, List.take_length] at p; exact p))
  rw [List.getElem?_map] at hx
  cases e : xs[i]? with
  | none => rw [e] at hx; cases hx
  | some y =>
    rw [e] at hx
    obtain rfl : sv y = x := Option.some.inj hx
    have hi : i < xs.length := (List.getElem?_eq_some_iff.mp e).1
    have ey : xs[i] = y := (List.getElem?_eq_some_iff.mp e).2
    have e1 : xs = xs.take i ++ y :: xs.drop (i + 1) := by
      rw [← ey, List.getElem_cons_drop, List.take_append_drop]
    have e2 : xs.take (i + 1) = xs.take i ++ [y] := by rw [List.take_add_one, e]; rfl
    show tb { D with nx := fun σ' H' => Pv (xs.take (i + 1)) σ' H', ct := fun σ' H' => Pv (xs.take (i + 1)) σ' H', bk := D.nx } (σ'.set j (some (sv y))) H'
    rw [e2]
    exact hs _ y _ σ' H' e1 p
end
/-! ### words -/
def Word (a : Wd) : Prop := 1 ≤ a.length ∧ a.length ≤ 10 ∧ ∀ c ∈ a, c ∈ ABC
def Abc (a : Wd) : Prop := ∀ c ∈ a, c ∈ ABC
structure Code (xs : List Wd) : Prop where
  nd : xs.Nodup
  le : xs.length ≤ 12
  wd : ∀ a ∈ xs, Word a
theorem Code.len {xs : List Wd} (c : Code xs) {a : Wd} (h : a ∈ xs) : a.length ≤ 10 := (c.wd a h).2.1
/-- an item by a remainder -/
theorem pickm {α : Type} (xs : List α) (i : Int) (h : xs ≠ []) : ∃ v, v ∈ xs ∧ xs[(i % (xs.length : Int)).toNat]? = some v := by
  have hp : (0 : Int) < (xs.length : Int) := by
    have := List.length_pos_iff.mpr h
    omega
  exact pick (Int.emod_nonneg _ (Int.ne_of_gt hp)) (Int.emod_lt_of_pos _ hp)
theorem get_map {α β : Type} {f : α → β} {xs : List α} {i : Nat} {v : α} (h : xs[i]? = some v) : (xs.map f)[i]? = some (f v) := by
  rw [List.getElem?_map, h]; rfl
end One
namespace One
open PySem PySem.Spec PyProof.Rows L2
/-- an item at a place that lies in the list: whichever -/
theorem ex_pick {α : Type} {xs : List α} {i : Int} {Q : α → Prop} (h0 : 0 ≤ i) (h1 : i < xs.length) (q : ∀ v, v ∈ xs → Q v) : ∃ v, xs[i.toNat]? = some v ∧ Q v := by
  obtain ⟨v, hv, e⟩ := pick h0 h1
  exact ⟨v, e, q v hv⟩
theorem ex_pickm {α : Type} {xs : List α} {i : Int} {Q : α → Prop} (h : xs ≠ []) (q : ∀ v, v ∈ xs → Q v) : ∃ v, xs[(i % (xs.length : Int)).toNat]? = some v ∧ Q v := by
  obtain ⟨v, hv, e⟩ := pickm xs i h
  exact ⟨v, e, q v hv⟩
theorem Abc.app {a b : Wd} (h : Abc a) (k : Abc b) : Abc (a ++ b) := fun c hc => (List.mem_append.mp hc).elim (h c) (k c)
theorem Abc.take {a : Wd} (h : Abc a) (n : Nat) : Abc (a.take n) := fun c hc => h c (List.mem_of_mem_take hc)
theorem Abc.drop {a : Wd} (h : Abc a) (n : Nat) : Abc (a.drop n) := fun c hc => h c (List.mem_of_mem_drop hc)
theorem Word.abc {a : Wd} (h : Word a) : Abc a := h.2.2
theorem cutW_abc {a : Wd} (h : Abc a) (lo hi : Option Int) : Abc (cutW a lo hi) := fun c hc => h c (List.mem_of_mem_drop (List.mem_of_mem_take hc))
theorem Word.cut {a : Wd} (h : Abc a) (h1 : 1 ≤ a.length) {n : Int} (h2 : 1 ≤ n) (h3 : n ≤ 10) : Word (cutW a none (some n)) := by
  rw [cutW_toI a (by omega)]
  refine ⟨?_, ?_, h.take _⟩ <;> rw [List.length_take] <;> omega
end One
namespace One
open PySem PySem.Spec PyProof.Rows L2
def rSetLn : V → V → V → Hp → (Hp → Prop) → Prop := fun o i v H Q => ∃ (p : Addr) (k : Int), o = .ref p ∧ i = .int k ∧ ∃ xs, H p = some (.lst xs) ∧ 0 ≤ k ∧ k < xs.length ∧ Q (upd H p (.lst (xs.set k.toNat v)))
theorem set_ln {X : Cx} : PSet X rSetLn := fun pins s σ H o i v ov iv u Q I ro ri rv ⟨p, k, h1, h2, xs, h3, h4, h5, q⟩ =>
  set_list pins s σ H o i v ov iv u Q I ro ri rv ⟨p, xs, k, k.toNat, h1, h2, h3, by unfold ixN; rw [if_pos h4, if_pos h5], q⟩
def rSumN (K : PySem.W.Frag) : List V → Hp → VK → Prop := fun vs H Q => ∃ (a : Addr), vs = [V.ref a] ∧ ∃ ns : List Int, SqL K H a (ns.map V.int) ∧ Q (.int ns.sum) H
theorem call_sumn {X : Cx} (hc : X.calm = true) : CallR X (.builtin "sum") (rSumN X.K) := fun pins s σ H vs us Q I r ⟨a, h1, ns, h2, q⟩ => cr_sum hc pins s σ H vs us Q I r ⟨a, ns, h1, h2, q⟩
end One

namespace One
open PySem PySem.Spec PyProof.Rows L2
/-! ### sorted(texts, key=len) -/
theorem len_turn {prog : Program} {w : World} {A : Around} {s : Shared} {z : Str} {t : Tok} (hz : z.length ≤ sizeLine) :
    wpAny (model prog w) A (call (.builtin "len") [.str z t]) (PySem.W.KeyPure (.int z.length) s) (fun _ _ => False) s := by
  have hn := line63
  exact len_str (by omega) ⟨s.heap, _, rfl, fun _ _ h => h, .int _ _⟩
theorem each_strs : ∀ {us : List Value} {xs : List Str}, StrsAre us xs → PySem.W.EachIs (fun v x => ∃ t, v = .str x t) us xs
  | _, _, .nil => .nil
  | _, _, .cons _ t h => .cons ⟨t, rfl⟩ (each_strs h)
theorem strs_each : ∀ {us : List Value} {xs : List Str}, PySem.W.EachIs (fun v x => ∃ t, v = .str x t) us xs → StrsAre us xs
  | _, _, .nil => .nil
  | _, _, .cons ⟨t, e⟩ h => by subst e; exact .cons _ t (strs_each h)
def tSortLen (K : PySem.W.Frag) (ta : TA) : TE := fun σ H Q => ta σ H fun vs H1 => ∃ a, vs = [.ref a] ∧ ∃ ws : List Wd, SqL K H1 a (ws.map sv) ∧ ws.length ≤ 1000 ∧ (∀ w ∈ ws, w.length ≤ 1000) ∧ ∀ (zs : List Wd) (p : Addr), zs.Perm ws → zs.Pairwise (fun x y => x.length ≤ y.length) → H1 p = none → Q (.ref p) (upd H1 p (.lst (zs.map sv)))
theorem map_strs (ws : List Wd) : (ws.map S).map V.str = ws.map sv := by rw [List.map_map]; rfl
theorem perm_S {zs : List Str} {ws : List Wd} (h : zs.Perm (ws.map S)) : ∃ ys : List Wd, zs = ys.map S ∧ ys.Perm ws := by
  refine ⟨zs.map fun z => z.cps.toList, ?_, ?_⟩
  · rw [List.map_map]
    have : ∀ z ∈ zs, (S ∘ fun z => z.cps.toList) z = z := fun z hz => by
      obtain ⟨a, _, rfl⟩ := List.mem_map.mp (h.mem_iff.mp hz)
      rfl
    exact (List.map_id' zs).symm.trans (List.map_congr_left fun z hz => (this z hz).symm)
  · have := h.map fun z : Str => z.cps.toList
    rw [List.map_map] at this
    have e : ((fun z : Str => z.cps.toList) ∘ S) = id := by funext a; rfl
    rw [e, List.map_id] at this
    exact this
theorem pe_sortLen {X : Cx} {p p2 p3 pos : Pos} {e : Expr} {ta : TA} (hu : X.A.units + 64 < cLine) (hg : Gl X "sorted") (hm : X.mg "sorted" = none) (hgl : Gl X "len") (hml : X.mg "len" = none) (ha : PA X [e] ta)
    (h1 : backTo pos (starEach [e] X.env) = (false, eval e X.env) :: backTo pos (starEach [] X.env) := by rfl) (hpl : (backTo pos (starEach [e] X.env)).any (·.1) = false := by rfl)
    (hall : (backToKw pos (keywordEach [⟨some (Str.ofString "key"), .Name "len" p2, p3⟩] X.env)).all (·.1.isSome) = true := by rfl) (hnone : (backToKw pos (keywordEach [⟨some (Str.ofString "key"), .Name "len" p2, p3⟩] X.env)).any (·.1.isNone) = false := by rfl) (hks : (backToKw pos (keywordEach [⟨some (Str.ofString "key"), .Name "len" p2, p3⟩] X.env)).filterMap (·.1) = [Str.ofString "key"] := by rfl) :
    PE X (.Call (.Name "sorted" p) [e] [⟨some (Str.ofString "key"), .Name "len" p2, p3⟩] pos) (tSortLen X.K ta) := by
  refine ⟨fun pins s σ H Q I h => ?_⟩
  refine wpAny_Call_Name_kw (ld_blt I hg hm boot_sorted ?_)
  refine PyProof.Rows.callWith_kw (thn (ha.run pos pins s σ H _ I h) fun us s1 ⟨vs, H1, I1, r1, q1⟩ => ?_) h1 hpl hall hnone
  obtain ⟨a, rfl, ws, hS, hl, hb, q⟩ := q1
  obtain rfl := Vals.ref1 r1
  show wpAny _ _ (evalAll ((do let v ← eval (.Name "len" p2) X.env; standAt pos; pure v) :: [])) _ _ s1
  refine wpAny_evalAll_cons (wpAny_bind (ld_blt I1 hgl hml boot_len (wpAny_bind (wpAny_standAt (wpAny_pure (wpAny_evalAll_nil ?_))))))
  rw [hks]
  show wpAny _ _ (call (.builtin "sorted") [.ref a] [(Str.ofString "key", .builtin "len")]) _ _ s1
  obtain ⟨its, rv, pl, _⟩ := I1.list hS
  rw [← map_strs] at rv
  have e1 := each_strs rv.strs
  refine PySem.W.sorted_key_data (b := false) (fun z : Str => .int (z.length : Int)) pl.isList e1 ?_ ?_ (by rw [List.length_map]; exact sz (by omega)) (fun _ _ => ?_) (PyProof.Rows.ksk_s1 _ _) (fun _ => PyProof.Rows.ksk_l1 _ _) (fun x => PyProof.Rows.ksk_t4 "len" x) ?_ ?_
  · exact fun d hd d' hd' => by
      obtain ⟨a, _, rfl⟩ := List.mem_map.mp hd
      obtain ⟨b, _, rfl⟩ := List.mem_map.mp hd'
      rfl
  · exact .inr fun d hd => by
      obtain ⟨a, _, rfl⟩ := List.mem_map.mp hd
      exact ⟨fun z => (by cases z), fun _ z => (by cases z)⟩
  · show X.A.units + 2 + 0 < cLine
    omega
  · rintro v x ⟨t, rfl⟩ hx h tk _
    obtain ⟨w, hw, rfl⟩ := List.mem_map.mp hx
    exact len_turn (by rw [S_len]; exact sz (by have := hb w hw; omega))
  · intro out c h' tk keep fr new hlen each
    rw [PySem.W.dataLe_int] at each
    obtain ⟨ys, eys, py⟩ := perm_S (List.mergeSort_perm (ws.map S) _)
    have pw := List.pairwise_mergeSort (le := fun a b : Str => decide ((a.length : Int) ≤ b.length)) (fun a b c h1 h2 => by simp only [decide_eq_true_eq] at *; omega) (fun a b => by simp only [Bool.or_eq_true, decide_eq_true_eq]; omega) (ws.map S)
    rw [eys] at pw each
    rw [List.pairwise_map] at pw
    have vo : Vals (ys.map sv) out := by rw [← map_strs]; exact vals_of_strs (strs_each each)
    have lo : (ys.map sv).length ≤ sizeLine := by rw [List.length_map, py.length_eq]; exact sz (by omega)
    exact ⟨.ref (s1.heap.objs.size + 1), upd H1 (s1.heap.objs.size + 1) (.lst (ys.map sv)), I1.laid (t' := tk) keep (Nat.le_succ _) ⟨lo, out, c, vo, new⟩, rfl, q ys _ py (pw.imp fun h => by simpa [S_len] using h) (I1.hok.fresh (Nat.le_succ _))⟩
end One
namespace One
open PySem PySem.Spec PyProof.Rows L2
def rSortedW (K : PySem.W.Frag) : List V → Hp → VK → Prop := fun vs H Q => ∃ a : Addr, vs = [V.ref a] ∧ ∃ xs : List Wd, SqL K H a (xs.map sv) ∧ xs.length < 64 ∧
  ∀ (ys : List Wd), ys.Perm xs → sortedS (ys.map S) = true → ∀ p : Addr, H p = none → Q (.ref p) (upd H p (.lst (ys.map sv)))
theorem call_sortedw {X : Cx} : CallR X (.builtin "sorted") (rSortedW X.K) := fun pins s σ H vs us Q I r ⟨a, e, xs, h1, h2, q⟩ =>
  cr_sortedS pins s σ H vs us Q I r ⟨a, xs.map S, e, by rw [map_strs]; exact h1, by rw [List.length_map]; exact h2, fun ys p py so hp => by
    obtain ⟨zs, rfl, pz⟩ := perm_S py
    rw [map_strs]
    exact q zs pz so p hp⟩
end One
namespace One
open PySem PySem.Spec PyProof.Rows L2
section
variable {K : PySem.W.Frag} {tt : TT} {te : TE} {Qd : Hp → Prop} {σ : L2.St} {H1 : Hp} {a D : Addr}
def wv : V → Wd
  | .str x => x.cps.toList
  | _ => []
/-- a comprehension over a list of texts -/
theorem lc_w {xs : List Wd} {j : Nat} (c : Wd → Bool) (y : Wd → V) (hD : H1 D = none) (hS : SqL K H1 a (xs.map sv)) (hz : xs.length ≤ 100000)
    (ht : ∀ x ∈ xs, EvB tt ((wipe σ [j]).set j (some (sv x))) H1 (c x)) (he : ∀ x ∈ xs, c x = true → EvV te ((wipe σ [j]).set j (some (sv x))) H1 (y x))
    (hd : ∀ H', Same H1 H' → H' D = some (.lst ((xs.filter c).map y)) → Qd H') :
    ∃ W : Nat → Nat → Hp → Prop, (∃ m, W 0 m (upd H1 D (.lst []))) ∧ ∀ i m H, W i m H →
      ((Itl K a).stop i H ∧ Qd H) ∨ ((Itl K a).go i H ∧ ∃ Nx : Hp → Prop, (∀ H', Nx H' → ∃ m', m' < m ∧ W (i + 1) m' H') ∧ ∀ x H', (Itl K a).yld i H x H' → gName j x (wipe σ [j]) H' fun σ2 H2 => wipe σ2 [j] = wipe σ [j] ∧ tt σ2 H2 fun b H3 =>
        if b = true then te σ2 H3 fun y H4 => ∃ acc, H4 D = some (.lst acc) ∧ acc.length < sizeLine ∧ Nx (upd H4 D (.lst (acc ++ [y]))) else Nx H3) := by
  refine lc_vals (fun v => c (wv v)) (fun v => y (wv v)) hD hS (by rw [List.length_map]; exact hz) (fun x hx => ?_) (fun x hx hc => ?_) (fun H' e h => hd H' e ?_)
  · obtain ⟨b, hb, rfl⟩ := List.mem_map.mp hx
    exact ht b hb
  · obtain ⟨b, hb, rfl⟩ := List.mem_map.mp hx
    exact he b hb hc
  · rw [List.filter_map, List.map_map] at h
    exact h
theorem evYes {σ : L2.St} {H : Hp} : EvB tYes σ H true := fun H' e Q q => q _ (Same.refl _)
end
end One
namespace One
open PySem PySem.Spec PyProof.Rows L2
section
variable {tb : TS} {D : Ends} {σ : L2.St} {H : Hp}
/-- over a text, sign by sign: Pv by what was taken -/
theorem for_str {a : Wd} {j : Nat} (Pv : Wd → L2.St → Hp → Prop) (h0 : Pv [] σ H)
    (hs : ∀ pre x post σ' H', a = pre ++ x :: post → Pv pre σ' H' → tb { D with nx := Pv (pre ++ [x]), ct := Pv (pre ++ [x]), bk := D.nx } (σ'.set j (some (sv [x]))) H') (hd : ∀ σ' H', Pv a σ' H' → D.nx σ' H') :
    ∃ W : Nat → Nat → L2.St → Hp → Prop, (∃ m, W 0 m σ H) ∧ ∀ i m σ H, W i m σ H →
      ((Its (S a)).stop i H ∧ D.nx σ H) ∨ ((Its (S a)).go i H ∧ ∃ N : L2.St → Hp → Prop, (∀ σ' H', N σ' H' → ∃ m', m' < m ∧ W (i + 1) m' σ' H') ∧ ∀ x H', (Its (S a)).yld i H x H' → gName j x σ H' fun σ2 H2 => tb { D with nx := N, ct := N, bk := D.nx } σ2 H2) := by
  refine for_it walk_str (fun i σ' H' => Pv (a.take i) σ' H') (by rw [List.take_zero]; exact h0) (fun _ _ _ _ _ => trivial) ?_ (fun σ' H' p => hd σ' H' ?_)
  · rintro i x σ H H' hi p ⟨rfl, c, hc, rfl⟩
    have hc' : a[i]? = some c := by
      rw [← hc]; exact (List.getElem?_toArray).symm
    obtain ⟨hi', ey⟩ := List.getElem?_eq_some_iff.mp hc'
    have e1 : a = a.take i ++ c :: a.drop (i + 1) := by rw [← ey, List.getElem_cons_drop, List.take_append_drop]
    have e2 : a.take (i + 1) = a.take i ++ [c] := by rw [List.take_add_one, hc']; rfl
    show tb { D with nx := fun σ' H' => Pv (a.take (i + 1)) σ' H', ct := fun σ' H' => Pv (a.take (i + 1)) σ' H', bk := D.nx } (σ.set j (some (sv [c]))) _
    rw [e2]
    exact hs _ c _ σ _ e1 p
  · have : (S a).cps.size = a.length := by show a.toArray.size = _; simp
    rw [this, List.take_length] at p
    exact p
end
end One
namespace One
open PySem PySem.Spec PyProof.Rows L2
abbrev di (i : Int) : PyData := .int i
theorem dpAll_ints {K : PySem.W.Frag} {H : Hp} : ∀ xs : List Int, DpAll K H (xs.map V.int) (xs.map di)
  | [] => .nil
  | x :: r => .cons (.int _) (dpAll_ints r)
theorem eqvAll_ints : ∀ xs ys : List Int, PyData.eqvAll (xs.map di) (ys.map di) = decide (xs = ys)
  | [], [] => rfl
  | [], _ :: _ => by simp [PyData.eqvAll]
  | _ :: _, [] => by simp [PyData.eqvAll]
  | x :: xs, y :: ys => by
    have e : PyData.eqv (.int x) (.int y) = decide (x = y) := by
      simp only [PyData.eqv]
      by_cases h : x = y
      · subst h; simp
      · rw [decide_eq_false h]; simpa using h
    simp only [List.map_cons, PyData.eqvAll, e, eqvAll_ints xs ys, List.cons.injEq, Bool.decide_and]
theorem eqv_ints (xs ys : List Int) : PyData.eqv (.list (xs.map di)) (.list (ys.map di)) = decide (xs = ys) := by
  rw [← eqvAll_ints xs ys]; simp only [PyData.eqv]
theorem plain_ints : ∀ xs : List Int, PyData.plainAll (xs.map di) = true
  | [] => rfl
  | x :: r => by simp only [List.map_cons, PyData.plainAll, PyData.plain, plain_ints r, Bool.and_self]
theorem depth_ints : ∀ xs : List Int, PyData.depthAll (xs.map di) = 0
  | [] => rfl
  | x :: r => by simp only [List.map_cons, PyData.depthAll, PyData.depth, depth_ints r, Nat.max_self]
theorem ok_ints (xs : List Int) : okD (.list (xs.map di)) = true := by
  unfold okD
  simp only [PyData.plain, PyData.depth, plain_ints, depth_ints]
  decide
theorem ok_nil : okD (.list []) = true := rfl
def rClearN : V → List V → Hp → VK → Prop := fun x vs H Q => ∃ l : Addr, x = .ref l ∧ vs = [] ∧ ∃ xs, H l = some (.lst xs) ∧ Q .non (upd H l (.lst []))
theorem mt_clrn {X : Cx} : MtM X "list.clear" rClearN := MtM.imp mt_clear fun x vs H Q ⟨l, e1, e2, xs, h, q⟩ => ⟨l, xs, e1, e2, h, q⟩
end One

namespace One
open PySem PySem.Spec PyProof.Rows L2
/-! ### dicts by raw tables -/
theorem kI (i : Int) : V.int i = kV (.inl i) := rfl
theorem kS (a : Wd) : sv a = kV (.inr (S a)) := rfl
def tDInN (neg : Bool) (ty td : TE) : TE := fun σ H Q => ty σ H fun y H1 => td σ H1 fun x H2 => ∃ a, x = .ref a ∧ ∃ k, y = kV k ∧ ∃ kvs, Rd H2 a (.dK kvs) ∧ Q (.bl (if neg then !(valV kvs k).isSome else (valV kvs k).isSome)) H2
def tDGetN (td ty : TE) : TE := fun σ H Q => td σ H fun x H1 => ty σ H1 fun y H2 => ∃ a, x = .ref a ∧ ∃ k, y = kV k ∧ ∃ kvs, Rd H2 a (.dK kvs) ∧ ∃ v, valV kvs k = some v ∧ Q v H2
def sDPutN (td ty tv : TE) : TS := fun D σ H => tv σ H fun v H1 => td σ H1 fun x H2 => ty σ H2 fun y H3 => ∃ a, x = .ref a ∧ ∃ k, y = kV k ∧ ∃ kvs, H3 a = some (.dK kvs) ∧ kvs.length < 100000 ∧ D.nx σ (upd H3 a (.dK (putK kvs k v)))
def tDGet1N (td ty : TE) : TE := fun σ H Q => td σ H fun x H1 => ∃ a, x = .ref a ∧ ∃ kvs0, Rd H1 a (.dK kvs0) ∧ ty σ H1 fun y H2 => ∃ k, y = kV k ∧ ∃ kvs, Rd H2 a (.dK kvs) ∧ Q ((valV kvs k).getD .non) H2
theorem DGet.kr {H : Hp} {a : Addr} {kvs : List (Key × V)} {k : Key} (e : Rd H a (.dK kvs)) : DGet H a (kV k) (valV kvs k) := .inl ⟨kvs, k, e, rfl, rfl⟩
section
variable {X : Cx} {o i e value : Expr} {pos pos' apos cpos : Pos} {td ty tv : TE}
theorem pc_dinN (hu : X.A.units + 1 < cLine) (hi : PE X i ty) (ho : PE X o td) : PC X .In i o (tDInN false ty td) := by
  refine ⟨fun pins s σ H Q I h => ?_⟩
  refine thn (hi.run pins s σ H _ I h) fun iv s1 ⟨y, H1, I1, ry, q1⟩ => thn (ho.run pins s1 σ H1 _ I1 q1) fun u s2 ⟨x, H2, I2, rx, a, ex, k, ey, kvs, hk, q2⟩ => ?_
  subst ex ey
  obtain rfl : u = Value.ref a := rx
  exact d_in hu I2 (DGet.kr hk) ry fun s3 I3 => ⟨.bl (valV kvs k).isSome, H2, I3, rfl, q2⟩
theorem pc_dniN (hu : X.A.units + 1 < cLine) (hi : PE X i ty) (ho : PE X o td) : PC X .NotIn i o (tDInN true ty td) := by
  refine ⟨fun pins s σ H Q I h => ?_⟩
  refine thn (hi.run pins s σ H _ I h) fun iv s1 ⟨y, H1, I1, ry, q1⟩ => thn (ho.run pins s1 σ H1 _ I1 q1) fun u s2 ⟨x, H2, I2, rx, a, ex, k, ey, kvs, hk, q2⟩ => ?_
  subst ex ey
  obtain rfl : u = Value.ref a := rx
  exact d_notIn hu I2 (DGet.kr hk) ry fun s3 I3 => ⟨.bl (!(valV kvs k).isSome), H2, I3, rfl, q2⟩
theorem pe_dgetN (hu : X.A.units + 1 < cLine) (ho : PE X o td) (hi : PE X i ty) (hs : NoSl i) : PE X (.Subscript o i pos) (tDGetN td ty) := by
  refine ⟨fun pins s σ H Q I h => ?_⟩
  refine subD_of PySem.F.slot_dict_getitem.lookup hs (thn (ho.run pins s σ H _ I h) fun u s1 ⟨x, H1, I1, rx, q1⟩ => thn (hi.run pins s1 σ H1 _ I1 q1) fun iv s2 ⟨y, H2, I2, ry, a, ex, k, ey, kvs, hk, v, hv, q2⟩ => ?_)
  subst ex ey
  obtain rfl : u = Value.ref a := rx
  have g : DGet H2 a (kV k) (some v) := by rw [← hv]; exact DGet.kr hk
  exact ⟨dict_typeIs I2 g, d_getItem hu I2 g ry fun w' s3 I3 rw' => ⟨v, H2, I3, rw', q2⟩⟩
theorem ps_dputN (hu : X.A.units + 1 < cLine) (ho : PE X o td) (hi : PE X i ty) (hv : PE X value tv) (hs : swapsWith value (some (.Subscript o i pos')) pos.line X.env = pure false) :
    PS X (.Assign [.Subscript o i pos'] value pos) (sDPutN td ty tv) := by
  refine ⟨fun pins s σ H D I h => ?_⟩
  refine wpAny_Assign_Subscript (thn (hv.run pins s σ H _ I h) fun r s1 ⟨v, H1, I1, rv, q1⟩ => thn (ho.run pins s1 σ H1 _ I1 q1) fun u s2 ⟨x, H2, I2, rx, q2⟩ => thn (hi.run pins s2 σ H2 _ I2 q2) fun iv s3 ⟨y, H3, I3, ry, a, ex, k, ey, kvs, hk, hl, q3⟩ => ?_) hs
  subst ex ey
  obtain rfl : u = Value.ref a := rx
  exact d_setItem hu I3 (DPut.k hk (szl hl)) ry rv fun s4 I4 => ⟨σ, _, I4, q3⟩
theorem pe_dget1N (hu : X.A.units + 1 < cLine) (ho : PE X o td) (he : PE X e ty) (m : M1 X o "get" apos e cpos) : PE X (.Call (.Attribute o "get" apos) [e] [] cpos) (tDGet1N td ty) := by
  refine ⟨fun pins s σ H Q I h => ?_⟩
  refine wpAny_Call_method m.base m.few m.line PySem.F.plainAttrs_dict PySem.F.slot_dict_get PySem.F.type_dict_get (thn (ho.run pins s σ H _ I h) fun u s1 ⟨x, H1, I1, rx, a, ex, kvs0, d0, q1⟩ => ?_)
  subst ex
  obtain rfl : u = Value.ref a := rx
  obtain ⟨t1, t2, _⟩ := isD_at I1 (.inl ⟨kvs0, d0⟩)
  refine ⟨t1, t2, ?_⟩
  rw [m.trees]
  refine Calls.callWith_builtin rfl (Calls.evalArgs_plain (Calls.spliced_cons (thn (he.run pins s1 σ H1 _ I1 q1) fun iv s2 ⟨y, H2, I2, ry, k, ey, kvs, hk, q2⟩ => Calls.spliced_nil ?_)))
  subst ey
  exact d_get1 hu I2 (DGet.kr hk) ry fun w' s3 I3 rw' => ⟨_, H2, I3, rw', q2⟩
def rLenDN : List V → Hp → VK → Prop := fun xs H Q => ∃ a, xs = [V.ref a] ∧ ∃ kvs, H a = some (.dK kvs) ∧ Q (.int kvs.length) H
theorem call_lendn : CallR X (.builtin "len") rLenDN := CallR.imp call_lenD fun xs H Q ⟨a, e, kvs, h, q⟩ => ⟨a, kvs, e, h, q⟩
/-- an int in a list of ints -/
def rInN (K : PySem.W.Frag) (neg : Bool) : R2 := fun x y H Q => ∃ (n : Int) (p : Addr), x = .int n ∧ y = .ref p ∧ ∃ ns : List Int, SqL K H p (ns.map V.int) ∧ Q (.bl (if neg then !decide (n ∈ ns) else decide (n ∈ ns))) H
theorem inV_ints (n : Int) (ns : List Int) : inV (.int n) (ns.map V.int) = decide (n ∈ ns) := by
  unfold inV
  rw [List.any_map, Bool.eq_iff_iff, List.any_eq_true, decide_eq_true_iff]
  constructor
  · rintro ⟨x, hx, e⟩
    have e2 : (x == n) = true := e
    have e3 : x = n := by simpa using e2
    rw [← e3]; exact hx
  · intro h
    exact ⟨n, h, by show (n == n) = true; simp⟩
theorem flat_ints (xs : List Int) : (xs.map V.int).all flatV = true := by
  rw [List.all_eq_true]
  intro v hv
  obtain ⟨a, _, rfl⟩ := List.mem_map.mp hv
  rfl
theorem op_inn : OpR X (compareOp .In) (rInN X.K false) := OpR.imp op_in_seq fun x y H Q ⟨a, p, hx, hy, xs, h, q⟩ => ⟨p, xs.map V.int, hy, .inl h, by rw [hx]; rfl, flat_ints xs, by rw [hx, inV_ints]; exact q⟩
theorem op_nin : OpR X (compareOp .NotIn) (rInN X.K true) := OpR.imp op_notIn_seq fun x y H Q ⟨a, p, hx, hy, xs, h, q⟩ => ⟨p, xs.map V.int, hy, .inl h, by rw [hx]; rfl, flat_ints xs, by rw [hx, inV_ints]; exact q⟩
end
end One

namespace One
open PySem PySem.Spec PyProof.Rows L2
/-! ### methods -/
/-- the method m of the class C -/
def DefM (K : PySem.W.Frag) (C : Addr) (m qual : Str) (st : Stmt) : Prop := ∃ f fd, Meth K C m f ∧ FunD K m qual (defArgs st) (defBody st) (defScope st) [] [] f fd
/-- the class C under its name, and its __init__ -/
def DefI (K : PySem.W.Frag) (mg : Str → Option Value) (C : Addr) (x qual : Str) (st : Stmt) : Prop := ∃ f fd, Mk K C f ∧ mg x = some (.ref C) ∧ FunD K "__init__" qual (defArgs st) (defBody st) (defScope st) [] [] f fd
structure CalM (P : Program) (w : World) (K : PySem.W.Frag) (mg : Str → Option Value) (base : Heap) (CX : CXT) (C : Addr) (m : Str) (k : Nat) (ps : List Str) (sp : Sp) : Prop where
  ex : ∃ f fd, Meth K C m f ∧ Binds K fd ps [] ∧ FnOk P w K mg base CX k f fd ps sp
structure CalI (P : Program) (w : World) (K : PySem.W.Frag) (mg : Str → Option Value) (base : Heap) (CX : CXT) (C : Addr) (x : Str) (k : Nat) (ps : List Str) (sp : Sp) : Prop where
  ex : ∃ f fd, Mk K C f ∧ mg x = some (.ref C) ∧ Binds K fd ps [] ∧ FnOk P w K mg base CX k f fd ps sp
section
variable {P : Program} {w : World} {K : PySem.W.Frag} {mg : Str → Option Value} {base : Heap} {CX : CXT} {C : Addr} {x m qual : Str} {st : Stmt} {N ps : List Str} {k : Nat} {sp : Sp}
theorem DefM.cal (D : DefM K C m qual st) (S : FnScope N ps (defScope st))
    (hb : ∀ (kV doc pm : Value) (an : Option Addr) (cdv ct : Value) (us : List Value), us.length = ps.length → bindArgs (PySem.W.fnOf m qual (defArgs st) (defBody st) (defScope st) .none kV doc pm an cdv ct) ⟨us, []⟩ = pure (ps.zip us))
    (len : ∀ vs H Q E, sp vs H Q E → vs.length = ps.length)
    (hbody : ∀ (f : Addr) (cdv : Value) (A : Around) (outer : List Env) (s : Shared) (H : Hp) (vs : List V) (Q : VK) (E : XK), Room k (A.deeper (envOfC qual (defScope st) s.heap.objs.size f cdv)) → sp vs H Q E →
      ∃ t, PSs (cxOf CX P w K mg base N qual (defScope st) f cdv A outer s H E) (defBody st) t ∧ t { nx := fun _ H' => Q .non H', rt := Q } (start N vs) H) : CalM P w K mg base CX C m (k + 1) ps sp := by
  obtain ⟨f, fd, hm, F⟩ := D
  exact ⟨f, fd, hm, F.bindsN hb, F.ok S len fun cdv A outer s H vs Q E hr h => hbody f cdv A outer s H vs Q E hr h⟩
theorem DefI.cal (D : DefI K mg C x qual st) (S : FnScope N ps (defScope st))
    (hb : ∀ (kV doc pm : Value) (an : Option Addr) (cdv ct : Value) (us : List Value), us.length = ps.length → bindArgs (PySem.W.fnOf "__init__" qual (defArgs st) (defBody st) (defScope st) .none kV doc pm an cdv ct) ⟨us, []⟩ = pure (ps.zip us))
    (len : ∀ vs H Q E, sp vs H Q E → vs.length = ps.length)
    (hbody : ∀ (f : Addr) (cdv : Value) (A : Around) (outer : List Env) (s : Shared) (H : Hp) (vs : List V) (Q : VK) (E : XK), Room k (A.deeper (envOfC qual (defScope st) s.heap.objs.size f cdv)) → sp vs H Q E →
      ∃ t, PSs (cxOf CX P w K mg base N qual (defScope st) f cdv A outer s H E) (defBody st) t ∧ t { nx := fun _ H' => Q .non H', rt := Q } (start N vs) H) : CalI P w K mg base CX C x (k + 1) ps sp := by
  obtain ⟨f, fd, hm, hg, F⟩ := D
  exact ⟨f, fd, hm, hg, F.bindsN hb, F.ok S len fun cdv A outer s H vs Q E hr h => hbody f cdv A outer s H vs Q E hr h⟩
end
section
variable {X : Cx} {CX : CXT} {j k : Nat} {C : Addr} {ps : List Str} {sp : Sp} {E : XK} {x m : Str} {p pos apos : Pos} {o e : Expr} {es : List Expr} {ta : TE} {t : TA}
theorem pe_calM {pl : Sem Bool} (M : CalM X.prog X.w X.K X.mg X.base CX0 C m k ps sp) (c : Cls X.K C) (hr : Room j X.A) (he : PE X o ta) (ha : PA X (e :: es) t) (hk : k ≤ j := by decide)
    (hst : starEach (e :: es) X.env = (false, eval e X.env) :: starEach es X.env := by rfl) (hpl : (backTo pos (starEach es X.env)).any (·.1) = false := by rfl)
    (ht : eval (.Call (.Attribute o m apos) (e :: es) [] pos) X.env = (do
      let ov ← eval o X.env
      standAt apos.atName
      let (f, first) ← holding [ov] (getMethod ov m pl)
      callWith pos f first (backTo pos (starEach (e :: es) X.env)) (backToKw pos (keywordEach [] X.env))) := by rfl) :
    PE X (.Call (.Attribute o m apos) (e :: es) [] pos) (tMeth C m sp [] E0 ta t) := by
  obtain ⟨f, fd, hm, hb, F⟩ := M.ex
  exact pe_meth he c hm F (hr.mono hk) hb .nil pass0 ha hst hpl ht
theorem pe_calM0 {pl : Sem Bool} (M : CalM X.prog X.w X.K X.mg X.base CX0 C m k ps sp) (c : Cls X.K C) (hr : Room j X.A) (he : PE X o ta) (hk : k ≤ j := by decide)
    (ht : eval (.Call (.Attribute o m apos) [] [] pos) X.env = (do
      let ov ← eval o X.env
      standAt apos.atName
      let (f, first) ← holding [ov] (getMethod ov m pl)
      callWith pos f first (backTo pos (starEach [] X.env)) (backToKw pos (keywordEach [] X.env))) := by rfl) :
    PE X (.Call (.Attribute o m apos) [] [] pos) (tMeth C m sp [] E0 ta tNil) := by
  obtain ⟨f, fd, hm, hb, F⟩ := M.ex
  exact pe_meth0 he c hm F (hr.mono hk) hb .nil pass0 ht
theorem pe_calI (M : CalI X.prog X.w X.K X.mg X.base CX0 C x k ps sp) (hr : Room j X.A) (hk : k + 1 ≤ j := by decide) (hg : Gl X x := by rfl) (hdb : (x == ("__debug__" : Str)) = false := by decide) :
    PE X (.Call (.Name x p) [] [] pos) (tMake C sp [] E0 tNil) := by
  obtain ⟨f, fd, hm, hmg, hb, F⟩ := M.ex
  exact pe_make0 hm F (hr.mono hk) hg hmg hb .nil pass0 hdb
end
end One

namespace One
open PySem PySem.Spec PyProof.Rows L2
/-! ### loops over dicts of texts, dicts compared and copied -/
def RetD (H : Hp) (Q : VK) (kvs : List (Key × V)) : Prop := ∀ p H', Same H H' → H p = none → H' p = some (.dK kvs) → Q (.ref p) H'
theorem unlock {H H' : Hp} {d : Addr} {u f : HO} (h : H d = some u) (s : Same (upd H d f) H') : Same H (upd H' d u) := fun b o e => by
  by_cases z : b = d
  · rw [z] at e ⊢
    rw [upd_same, ← h, e]
  · rw [upd_ne z]
    exact s b o (by rw [upd_ne z]; exact e)
theorem lock_base {H H' : Hp} {d : Addr} {u : HO} (f : HO) (hd : H d = some u) (s : Same H H') :
    ∃ H0, Same H0 (upd H' d f) ∧ (∀ b o, b ≠ d → H b = some o → H0 b = some o) ∧ (∀ b, H b = none → H0 b = none) ∧ H0 d = some f ∧ ∀ H'', Same H0 H'' → Same H (upd H'' d u) := by
  refine ⟨upd H d f, fun b o e => ?_, fun b o n e => by rw [upd_ne n]; exact e, fun b e => ?_, upd_same, fun H'' => unlock hd⟩
  · by_cases z : b = d
    · rw [z] at e ⊢
      rw [upd_same] at e ⊢
      exact e
    · rw [upd_ne z] at e ⊢
      exact s b o e
  · rw [upd_ne (fun z => by rw [z, hd] at e; cases e)]; exact e
section
variable {K : PySem.W.Frag} {g : TG} {tb : TS} {D : Ends} {σ : L2.St} {H : Hp} {td : TE}
/-- a loop over the keys of the locked dict at d, all of them texts -/
theorem keys_in {d : Addr} {od : Obj} {kvs : List (Key × V)} {ks : List Wd} {j : Nat} (hk : kvs.map (·.1) = ks.map fun a => (.inr (S a) : Key)) (hd : H d = some (.frz od (.dK kvs)))
    (Pv : List Wd → L2.St → Hp → Prop) (h0 : Pv [] σ H) (hf : ∀ pre σ' H', Pv pre σ' H' → H' d = some (.frz od (.dK kvs)))
    (hs : ∀ pre x post σ' H', ks = pre ++ x :: post → Pv pre σ' H' → tb { D with nx := Pv (pre ++ [x]), ct := Pv (pre ++ [x]), bk := D.nx } (σ'.set j (some (sv x))) H') (he : ∀ σ' H', Pv ks σ' H' → D.nx σ' H') :
    ∃ d' o, V.ref d = .ref d' ∧ ((∃ kvs, H d' = some (.frz o (.dK kvs)) ∧ ∃ W : Nat → Nat → L2.St → Hp → Prop, (∃ m, W 0 m σ H) ∧ ∀ i m σ H, W i m σ H →
      ((Itk d' o kvs).stop i H ∧ D.nx σ H) ∨ ((Itk d' o kvs).go i H ∧ ∃ N : L2.St → Hp → Prop, (∀ σ' H', N σ' H' → ∃ m', m' < m ∧ W (i + 1) m' σ' H') ∧ ∀ x H', (Itk d' o kvs).yld i H x H' → gName j x σ H' fun σ2 H2 => tb { D with nx := N, ct := N, bk := D.nx } σ2 H2)) ∨
      ∃ kvs, H d' = some (.frz o (.dT kvs)) ∧ ∃ W : Nat → Nat → L2.St → Hp → Prop, (∃ m, W 0 m σ H) ∧ ∀ i m σ H, W i m σ H →
      ((Itkt d' o kvs).stop i H ∧ D.nx σ H) ∨ ((Itkt d' o kvs).go i H ∧ ∃ N : L2.St → Hp → Prop, (∀ σ' H', N σ' H' → ∃ m', m' < m ∧ W (i + 1) m' σ' H') ∧ ∀ x H', (Itkt d' o kvs).yld i H x H' → gName j x σ H' fun σ2 H2 => tb { D with nx := N, ct := N, bk := D.nx } σ2 H2)) := by
  have kl : kvs.length = ks.length := by
    have := congrArg List.length hk
    rwa [List.length_map, List.length_map] at this
  refine ⟨d, od, rfl, .inl ⟨kvs, hd, for_it walk_keys (fun i σ' H' => Pv (ks.take i) σ' H') (by rw [List.take_zero]; exact h0) (fun _ _ _ _ p => hf _ _ _ p) ?_ fun σ' H' p => he σ' H' ?_⟩⟩
  · rintro i x σ H H' hi p ⟨rfl, k, v, hkv, rfl⟩
    have hi' : i < ks.length := by omega
    have hq : (kvs.map (·.1))[i]? = some k := by rw [List.getElem?_map, hkv]; rfl
    rw [hk, List.getElem?_map, List.getElem?_eq_getElem hi'] at hq
    obtain rfl : (.inr (S ks[i]) : Key) = k := Option.some.inj hq
    have e1 : ks = ks.take i ++ ks[i] :: ks.drop (i + 1) := by rw [List.getElem_cons_drop, List.take_append_drop]
    have e2 : ks.take (i + 1) = ks.take i ++ [ks[i]] := by rw [List.take_add_one, List.getElem?_eq_getElem hi']; rfl
    show tb { D with nx := fun σ' H' => Pv (ks.take (i + 1)) σ' H', ct := fun σ' H' => Pv (ks.take (i + 1)) σ' H', bk := D.nx } (σ.set j (some (sv ks[i]))) _
    rw [e2]
    exact hs _ ks[i] _ σ _ e1 p
  · rw [kl, List.take_length] at p
    exact p
/-- a list of things told by what the heap has at them -/
theorem for_rl {α : Type} {a : Addr} {g : TG} {xs : List V} {qs : List α} (hl : xs.length = qs.length) (Pv : List α → L2.St → Hp → Prop) (h0 : Pv [] σ H)
    (hs0 : ∀ pre σ' H', Pv pre σ' H' → SqL K H' a xs)
    (hs : ∀ pre x post v σ' H', qs = pre ++ x :: post → xs[pre.length]? = some v → Pv pre σ' H' → g v σ' H' fun σ2 H2 => tb { D with nx := Pv (pre ++ [x]), ct := Pv (pre ++ [x]), bk := D.nx } σ2 H2) (hd : ∀ σ' H', Pv qs σ' H' → D.nx σ' H') :
    ∃ W : Nat → Nat → L2.St → Hp → Prop, (∃ m, W 0 m σ H) ∧ ∀ i m σ H, W i m σ H →
      ((Itl K a).stop i H ∧ D.nx σ H) ∨ ((Itl K a).go i H ∧ ∃ N : L2.St → Hp → Prop, (∀ σ' H', N σ' H' → ∃ m', m' < m ∧ W (i + 1) m' σ' H') ∧ ∀ x H', (Itl K a).yld i H x H' → g x σ H' fun σ2 H2 => tb { D with nx := N, ct := N, bk := D.nx } σ2 H2) := by
  refine for_list (xs := xs) (fun i σ' H' => Pv (qs.take i) σ' H') (by rw [List.take_zero]; exact h0) (fun i σ' H' _ p => hs0 _ _ _ p) (fun i x σ' H' hx p => ?_) (fun σ' H' p => hd σ' H' (by rw [hl, List.take_length] at p; exact p))
  have hi : i < xs.length := (List.getElem?_eq_some_iff.mp hx).1
  have hi' : i < qs.length := by omega
  have e1 : qs = qs.take i ++ qs[i] :: qs.drop (i + 1) := by rw [List.getElem_cons_drop, List.take_append_drop]
  have e2 : qs.take (i + 1) = qs.take i ++ [qs[i]] := by rw [List.take_add_one, List.getElem?_eq_getElem hi']; rfl
  rw [e2]
  exact hs _ qs[i] _ x σ' H' e1 (by rw [List.length_take, Nat.min_eq_left (Nat.le_of_lt hi')]; exact hx) p
end
section
variable {X : Cx}
def rEqDN : R2 := fun x y H Q => ∃ a b, x = .ref a ∧ y = .ref b ∧ ∃ ks, H a = some (.dK ks) ∧ ∃ ls, H b = some (.dK ls) ∧ ks.length = ls.length ∧ (∀ p ∈ ks, valV ls p.1 = some p.2 ∧ flatB p.2 = true) ∧ Q (.bl true) H
def rNeDN : R2 := fun x y H Q => ∃ a b, x = .ref a ∧ y = .ref b ∧ ∃ ks, H a = some (.dK ks) ∧ ∃ ls, H b = some (.dK ls) ∧ ks.length = ls.length ∧ (∀ p ∈ ks, valV ls p.1 = some p.2 ∧ flatB p.2 = true) ∧ Q (.bl false) H
theorem op_eqdn (hu : X.A.units + 1 < cLine) : OpR X (compareOp .Eq) rEqDN := OpR.imp (op_eq_dictA (by omega)) fun x y H Q ⟨a, b, hx, hy, ks, h1, ls, h2, h3, h4, q⟩ => ⟨a, b, ks, ls, hx, hy, h1, h2, h3, h4, q⟩
theorem op_nedn (hu : X.A.units + 1 < cLine) : OpR X (compareOp .NotEq) rNeDN := OpR.imp (op_ne_dictA (by omega)) fun x y H Q ⟨a, b, hx, hy, ks, h1, ls, h2, h3, h4, q⟩ => ⟨a, b, ks, ls, hx, hy, h1, h2, h3, h4, q⟩
theorem tyD {K : PySem.W.Frag} {H : Hp} {p : Addr} {kvs : List (Key × V)} (h : H p = some (.dK kvs)) : tyV K "dict" (.ref p) H := .inr (.inr (.inl ⟨rfl, .inl ⟨_, h⟩⟩))
def rDClearN : V → List V → Hp → VK → Prop := fun x vs H Q => ∃ a : Addr, x = .ref a ∧ vs = [] ∧ ∃ kvs, H a = some (.dK kvs) ∧ Q .non (upd H a (.dK []))
theorem mt_dclrn {X : Cx} : MtR X "dict.clear" rDClearN := by
  intro pins s σ H x vs v us Q I rx rv h
  obtain ⟨a, e1, e2, kvs, h1, q⟩ := h
  exact mtd_clear pins s σ H x vs v us Q I rx rv ⟨a, kvs, e1, e2, h1, q⟩
def rDictOf : List V → Hp → VK → Prop := fun xs H Q => ∃ a, xs = [V.ref a] ∧ ∃ kvs, Rd H a (.dK kvs) ∧ ∀ p : Addr, H p = none → Q (.ref p) (upd H p (.dK kvs))
theorem call_dictn : CallR X (.type "dict") rDictOf := CallR.imp call_dictD fun xs H Q ⟨a, e, kvs, h, q⟩ => ⟨a, kvs, e, h, q⟩
end
end One

namespace One
open PySem PySem.Spec PyProof.Rows L2
/-! ### sorted(rows, key=the size of a row's first word) -/
/-- a def that is called for a key: R tells of what it is asked and what it answers -/
structure KeyFn (P : Program) (w : World) (K : PySem.W.Frag) (mg : Str → Option Value) (base : Heap) (x : Str) (R : Hp → V → Nat → Prop) : Prop where
  ex : ∃ f, mg x = some (.ref f) ∧ ∀ (A : Around) (outer : List Env) (s : Shared) (H : Hp) (v : V) (u : Value) (n : Nat), Room 1 A → Env0 P w K mg base A outer s H → R H v n → RelV v u →
    wpAny (model P w) A (call (.ref f) [u]) (PySem.W.KeyPure (.int n) s) (fun _ _ => False) s
/-- a row whose first word has n signs -/
def RowHead (H : Hp) (v : V) (n : Nat) : Prop := ∃ (a : Addr) (w : Wd) (xs : List V), v = .ref a ∧ H a = some (.lst (sv w :: xs)) ∧ n = w.length ∧ w.length ≤ 1000
theorem ld_var {X : Cx} {E : Value → Shared → Prop} {pins : List (Addr × Obj)} {s : Shared} {σ : L2.St} {H : Hp} {i : Nat} {x : Str} {v : V} {pos : Pos} {Q : Value → Shared → Prop} (I : Inv X pins σ H s) (hN : X.N[i]? = some x) (e : σ[i]? = some (some v)) (hv : Vis X.env.scope x) (h : ∀ u, RelV v u → Q u s)
    (hd : (x == ("__debug__" : Str)) = false) (hcd : (x == ("__classdict__" : Str)) = false) : wpAny (model X.prog X.w) X.A (eval (.Name x pos) X.env) Q E s := by
  obtain ⟨m, hn, hl⟩ := I.loc
  obtain ⟨u, r, l⟩ := hl i x v hN e hv
  rcases l with ⟨hk, hm⟩ | ⟨hk, c, hc, hcell⟩
  · exact wpAny_Name (wpAny_loadName_local I.ok.kind hk hn hm (h u r)) hd
  · rcases hk with hk | hk
    · exact wpAny_Name (wpAny_loadName_cell I.ok.kind hk hc hcell (h u r)) hd
    · exact wpAny_Name (wpAny_loadName_free I.ok.kind hk hc hcell (h u r) hcd) hd
theorem headKey {P : Program} {w : World} {K : PySem.W.Frag} {mg : Str → Option Value} {base : Heap} {x y : Str} {st : Stmt} {p1 p2 p3 p4 p5 p6 : Pos} {j : Nat} (B : Bi mg) (D : Def K mg x st) (S : FnScope [y] [y] (defScope st))
    (hg : (defScope st).names.lookup ("len" : Str) = some NameKind.globalImplicit) (hv : Vis (defScope st) y) (hd : (y == ("__debug__" : Str)) = false) (hcl : (y == ("__classdict__" : Str)) = false) (hbd : defBody st = [.Return (some (.Call (.Name "len" p1) [.Subscript (.Name y p2) (.Constant (.int 0) j p3) p4] [] p5)) p6])
    (hb : ∀ (kV doc pm : Value) (an : Option Addr) (cdv ct : Value) (us : List Value), us.length = [y].length → bindArgs (PySem.W.fnOf x x (defArgs st) (defBody st) (defScope st) .none kV doc pm an cdv ct) ⟨us, []⟩ = pure ([y].zip us)) : KeyFn P w K mg base x RowHead := by
  obtain ⟨f, fd, hm, F⟩ := D
  have hbd2 := fun s us hl => FunD.bindsA (ps := [y]) F hb s us hl
  obtain ⟨oc, od, dV, kV, doc, pm, an, cdv, ct, osl, rfl, lk, hcd, _, _⟩ := F.ex
  refine ⟨f, hm, fun A outer s H v u n hr e0 hR r => ?_⟩
  obtain ⟨a, wd, xs, rfl, hL, rfl, hz⟩ := hR
  obtain rfl : u = Value.ref a := r
  have KX : K.In s.heap := e0.mod.kin.keeps fun b o e => (e0.bs b o e).1
  have lim : s.heap.NoLimit := e0.mod.nolimit.keeps fun b o e => (e0.bs b o e).1
  have hkind : ∀ z ∈ [y].zip [Value.ref a], (defScope st).names.lookup z.1 = some .local ∨ ((defScope st).names.lookup z.1 = some .cell ∧ ((cellsFrom (s.heap.objs.size + 1) (defScope st).names []).lookup z.1).isSome = true) := fun ⟨n, v⟩ hy => by
    rcases S.par n (List.of_mem_zip hy).1 with q | q
    · exact .inl q
    · exact .inr ⟨q, PySem.W.cellsFrom_some _ _ _ (.inl q)⟩
  refine wpAny_call (codeAny_call_function hr.depth (KX _ _ lk) rfl S.co S.gen rfl (PySem.W.codeRec_of KX hcd) (hbd2 s [.ref a] rfl _ _ _ _ ?_))
  refine wpAny_newFunctionEnv_cells S.kind hkind fun env he s1 x1 => ?_
  subst he
  refine ⟨lim.keeps x1.toInCall.keep, codeAny_func ?_⟩
  have I : Inv (cxOf CX0 P w K mg base [y] x (defScope st) f cdv A outer s H E0) [] (L2.start [y] [.ref a]) H s1 := inv_start (us := [.ref a]) (vs := [.ref a]) S hr.hd e0 rfl (.cons rfl .nil) x1
  rw [hbd]
  obtain ⟨h1, tk1, es1, k1⟩ := x1.done
  refine wpAny_execs_cons (wpAny_Return_some ?_)
  refine wpAny_Call_Name_kw (ld_blt (X := cxOf CX0 P w K mg base [y] x (defScope st) f cdv A outer s H E0) I hg B.len boot_len ?_)
  refine PyProof.Rows.callWith_builtin1 ?_ rfl rfl
  refine Calls.spliced_cons ?_
  refine Subscript_ (ld_var (X := cxOf CX0 P w K mg base [y] x (defScope st) f cdv A outer s H E0) (i := 0) I rfl rfl hv (fun u hu => ?_) hd hcl)
  obtain rfl : u = Value.ref a := hu
  refine wpAny_Constant_int ?_
  obtain ⟨its, rv, pl, hz2⟩ := I.list (SqL.of hL)
  cases rv with
  | cons r0 rr =>
    obtain ⟨t0, rfl⟩ := r0
    refine item_listR pl.isList (by decide) (by decide) rfl ?_
    have hn := line63
    have hl2 : (One.S wd).length = wd.length := S_len wd
    refine Calls.spliced_nil (len_str (by have := sz (show wd.length ≤ 100000 by omega); omega) ?_)
    show PySem.W.KeyPure _ s _ _
    exact ⟨h1, _, by rw [es1], k1, by rw [← hl2]; exact .int _ _⟩
/-- two things in an order of their own -/
theorem perm_two {α : Type} {a b : α} {zs : List α} (h : zs.Perm [a, b]) : zs = [a, b] ∨ zs = [b, a] := by
  have hl := h.length_eq
  match zs, hl with
  | [x, y], _ =>
    have hx : x ∈ [a, b] := h.mem_iff.mp List.mem_cons_self
    rcases List.mem_cons.mp hx with rfl | hx
    · have := (List.perm_cons x).mp h
      rw [List.perm_singleton.mp this]
      exact .inl rfl
    · obtain rfl := List.mem_singleton.mp hx
      have h2 : [y].Perm [a] := (List.perm_cons x).mp (h.trans (List.Perm.swap x a []))
      rw [List.perm_singleton.mp h2]
      exact .inr rfl
def tSortKey (K : PySem.W.Frag) (R : Hp → V → Nat → Prop) (ta : TA) : TE := fun σ H Q => ta σ H fun vs H1 => ∃ a, vs = [.ref a] ∧ ∃ bs : List (V × Nat), SqL K H1 a (bs.map (·.1)) ∧ bs.length ≤ 1000 ∧ (∀ b ∈ bs, R H1 b.1 b.2) ∧
  ∀ (zs : List (V × Nat)) (p : Addr), zs.Perm bs → zs.Pairwise (fun x y => x.2 ≤ y.2) → H1 p = none → Q (.ref p) (upd H1 p (.lst (zs.map (·.1))))
theorem each_vals : ∀ {us : List Value} {bs : List (V × Nat)}, Vals (bs.map (·.1)) us → PySem.W.EachIs (fun v (x : V × Nat) => RelV x.1 v) us bs
  | [], [], _ => .nil
  | _ :: _, b :: bs, .cons r h => .cons r (each_vals h)
theorem vals_each : ∀ {us : List Value} {bs : List (V × Nat)}, PySem.W.EachIs (fun v (x : V × Nat) => RelV x.1 v) us bs → Vals (bs.map (·.1)) us
  | _, _, .nil => .nil
  | _, _, .cons r h => .cons r (vals_each h)
theorem pe_sortKey {X : Cx} {x : Str} {R : Hp → V → Nat → Prop} {p p2 p3 pos : Pos} {e : Expr} {ta : TA} (KF : KeyFn X.prog X.w X.K X.mg X.base x R) (hr : Room 3 X.A) (hg : Gl X "sorted") (hm : X.mg "sorted" = none) (hgl : Gl X x) (hdb : (x == ("__debug__" : Str)) = false) (ha : PA X [e] ta)
    (h1 : backTo pos (starEach [e] X.env) = (false, eval e X.env) :: backTo pos (starEach [] X.env) := by rfl) (hpl : (backTo pos (starEach [e] X.env)).any (·.1) = false := by rfl)
    (hall : (backToKw pos (keywordEach [⟨some (Str.ofString "key"), .Name x p2, p3⟩] X.env)).all (·.1.isSome) = true := by rfl) (hnone : (backToKw pos (keywordEach [⟨some (Str.ofString "key"), .Name x p2, p3⟩] X.env)).any (·.1.isNone) = false := by rfl) (hks : (backToKw pos (keywordEach [⟨some (Str.ofString "key"), .Name x p2, p3⟩] X.env)).filterMap (·.1) = [Str.ofString "key"] := by rfl) :
    PE X (.Call (.Name "sorted" p) [e] [⟨some (Str.ofString "key"), .Name x p2, p3⟩] pos) (tSortKey X.K R ta) := by
  obtain ⟨f, hmf, KF⟩ := KF.ex
  have hu := hr.units
  refine ⟨fun pins s σ H Q I h => ?_⟩
  refine wpAny_Call_Name_kw (ld_blt I hg hm boot_sorted ?_)
  refine PyProof.Rows.callWith_kw (thn (ha.run pos pins s σ H _ I h) fun us s1 ⟨vs, H1, I1, r1, q1⟩ => ?_) h1 hpl hall hnone
  obtain ⟨a, rfl, bs, hS, hl, hb, q⟩ := q1
  obtain rfl := Vals.ref1 r1
  show wpAny _ _ (evalAll ((do let v ← eval (.Name x p2) X.env; standAt pos; pure v) :: [])) _ _ s1
  refine wpAny_evalAll_cons (wpAny_bind (ld_glob I1 hgl hmf (wpAny_bind (wpAny_standAt (wpAny_pure (wpAny_evalAll_nil ?_)))) hdb))
  rw [hks]
  show wpAny _ _ (call (.builtin "sorted") [.ref a] [(Str.ofString "key", .ref f)]) _ _ s1
  obtain ⟨its, rv, pl, _⟩ := I1.list hS
  have e1 := each_vals rv
  refine PySem.W.sorted_key_data (f := .ref f) (b := false) (fun z : V × Nat => .int (z.2 : Int)) pl.isList e1 ?_ ?_ (sz (by omega)) (fun _ _ => ?_) (PyProof.Rows.ksk_s1 _ _) (fun _ => PyProof.Rows.ksk_l1 _ _) (fun y => rfl) ?_ ?_
  · exact fun d hd d' hd' => by
      obtain ⟨a, _, rfl⟩ := List.mem_map.mp hd
      obtain ⟨b, _, rfl⟩ := List.mem_map.mp hd'
      rfl
  · exact .inr fun d hd => by
      obtain ⟨a, _, rfl⟩ := List.mem_map.mp hd
      exact ⟨fun z => (by cases z), fun _ z => (by cases z)⟩
  · show X.A.units + 2 + 0 < cLine
    omega
  · intro v y hv hy h tk keep
    have I2 : Inv X pins σ H1 { s1 with heap := h, toks := tk } := I1.kept (t' := tk) keep
    exact KF X.A.in1.in1 X.stack _ H1 y.1 v y.2 (hr.in1.in1) I2.env0.in1.in1 (hb y hy) hv
  · intro out c h' tk keep fr new hlen each
    rw [PySem.W.dataLe_int] at each
    have py := List.mergeSort_perm bs fun a b : V × Nat => decide ((a.2 : Int) ≤ b.2)
    have pw := List.pairwise_mergeSort (le := fun a b : V × Nat => decide ((a.2 : Int) ≤ b.2)) (fun a b c h1 h2 => by simp only [decide_eq_true_eq] at *; omega) (fun a b => by simp only [Bool.or_eq_true, decide_eq_true_eq]; omega) bs
    have vo := vals_each each
    have lo : ((bs.mergeSort fun a b : V × Nat => decide ((a.2 : Int) ≤ b.2)).map (·.1)).length ≤ sizeLine := by rw [List.length_map, py.length_eq]; exact sz (by omega)
    exact ⟨.ref (s1.heap.objs.size + 1), upd H1 (s1.heap.objs.size + 1) (.lst _), I1.laid (t' := tk) keep (Nat.le_succ _) ⟨lo, out, c, vo, new⟩, rfl, q _ _ py (pw.imp fun h => by simpa using h) (I1.hok.fresh (Nat.le_succ _))⟩
section
variable {K : PySem.W.Frag} {a : Addr} {tb : TS} {D : Ends} {σ : L2.St} {H : Hp}
/-- over a list of texts from its end -/
theorem for_rwl {xs : List Wd} {j : Nat} (Pv : List Wd → L2.St → Hp → Prop) (h0 : Pv [] σ H) (hl : ∀ pre σ' H', Pv pre σ' H' → SqL K H' a (xs.map sv))
    (hs : ∀ pre x post σ' H', xs.reverse = pre ++ x :: post → Pv pre σ' H' → tb { D with nx := Pv (pre ++ [x]), ct := Pv (pre ++ [x]), bk := D.nx } (σ'.set j (some (sv x))) H') (hd : ∀ σ' H', Pv xs.reverse σ' H' → D.nx σ' H') :
    ∃ W : Nat → Nat → L2.St → Hp → Prop, (∃ m, W 0 m σ H) ∧ ∀ i m σ H, W i m σ H →
      ((Itv K a (xs.map sv).length).stop i H ∧ D.nx σ H) ∨ ((Itv K a (xs.map sv).length).go i H ∧ ∃ N : L2.St → Hp → Prop, (∀ σ' H', N σ' H' → ∃ m', m' < m ∧ W (i + 1) m' σ' H') ∧ ∀ x H', (Itv K a (xs.map sv).length).yld i H x H' → gName j x σ H' fun σ2 H2 => tb { D with nx := N, ct := N, bk := D.nx } σ2 H2) := by
  refine for_it (walk_rev (xs := xs.map sv)) (fun i σ' H' => Pv (xs.reverse.take i) σ' H') (by rw [List.take_zero]; exact h0) (fun i σ' H' _ p => hl _ _ _ p) ?_ (fun σ' H' p => hd σ' H' ?_)
  · rintro i x σ H H' hi p ⟨rfl, hx⟩
    rw [List.length_map] at hi hx
    have hr : i < xs.reverse.length := by rw [List.length_reverse]; exact hi
    have ex : xs.reverse[i] = xs[xs.length - 1 - i]'(by omega) := List.getElem_reverse hr
    rw [List.getElem?_map, List.getElem?_eq_getElem (by omega)] at hx
    obtain rfl : sv _ = x := Option.some.inj hx
    rw [← ex]
    have e1 : xs.reverse = xs.reverse.take i ++ xs.reverse[i] :: xs.reverse.drop (i + 1) := by rw [List.getElem_cons_drop, List.take_append_drop]
    have e2 : xs.reverse.take (i + 1) = xs.reverse.take i ++ [xs.reverse[i]] := by rw [List.take_add_one, List.getElem?_eq_getElem hr]; rfl
    show tb { D with nx := fun σ' H' => Pv (xs.reverse.take (i + 1)) σ' H', ct := fun σ' H' => Pv (xs.reverse.take (i + 1)) σ' H', bk := D.nx } (σ.set j (some (sv xs.reverse[i]))) _
    rw [e2]
    exact hs _ xs.reverse[i] _ σ _ e1 p
  · rw [List.length_map, ← List.length_reverse, List.take_length] at p
    exact p
end
end One

namespace One
open PySem PySem.Spec PyProof.Rows L2
/-! ### an if whose branches meet again -/
theorem if_cont {b : Bool} {A : TS} {D : Ends} {σ : L2.St} {H : Hp} (I : L2.St → Hp → Prop) (hc : ∀ σ' H', I σ' H' → D.nx σ' H') (h1 : b = true → ∀ D' : Ends, D'.rt = D.rt → (∀ σ' H', I σ' H' → D'.nx σ' H') → A D' σ H) (h2 : b = false → I σ H) :
    if b = true then A D σ H else tNext D σ H := by
  cases b with
  | true => rw [if_pos rfl]; exact h1 rfl D rfl hc
  | false => rw [if_neg (by decide)]; exact hc _ _ (h2 rfl)
/-! ### comprehensions whose elements are made by calls -/
theorem Paired.get {α β : Type} {F : α → β → Prop} : ∀ {xs : List α} {ys : List β}, Paired F xs ys → ∀ (i : Nat) (v : α), xs[i]? = some v → ∃ y, ys[i]? = some y ∧ F v y
  | _, _, .nil, i, v, h => by cases h
  | _, _, .cons (a := a) (b := b) f t, 0, v, h => by
    obtain rfl : a = v := Option.some.inj h
    exact ⟨b, rfl, f⟩
  | _, _, .cons f t, i + 1, v, h => Paired.get t i v h
section
variable {K : PySem.W.Frag} {a : Addr} {te : TE} {σ : L2.St} {H1 : Hp} {D : Addr} {Qd : Hp → Prop}
theorem lc_p {xs : List Wd} {j : Nat} (F : Hp → V → Wd → Prop) (Fm : ∀ {H H' : Hp} {x : Wd} {v : V}, (∀ t u, H t = some (.tup u) → H' t = some (.tup u)) → F H v x → F H' v x) (hD : H1 D = none) (hS : SqL K H1 a (xs.map sv)) (hz : xs.length ≤ 100000)
    (he : ∀ x ∈ xs, ∀ H2, Same H1 H2 → ∀ Q : VK, (∀ v H3, Same H2 H3 → F H3 v x → Q v H3) → te ((wipe σ [j]).set j (some (sv x))) H2 Q)
    (hd : ∀ H' vs, Same H1 H' → H' D = some (.lst vs) → Paired (F H') vs xs → Qd H') :
    ∃ W : Nat → Nat → Hp → Prop, (∃ m, W 0 m (upd H1 D (.lst []))) ∧ ∀ i m H, W i m H →
      ((Itl K a).stop i H ∧ Qd H) ∨ ((Itl K a).go i H ∧ ∃ Nx : Hp → Prop, (∀ H', Nx H' → ∃ m', m' < m ∧ W (i + 1) m' H') ∧ ∀ x H', (Itl K a).yld i H x H' → gName j x (wipe σ [j]) H' fun σ2 H2 => wipe σ2 [j] = wipe σ [j] ∧ tYes σ2 H2 fun b H3 =>
        if b = true then te σ2 H3 fun y H4 => ∃ acc, H4 D = some (.lst acc) ∧ acc.length < sizeLine ∧ Nx (upd H4 D (.lst (acc ++ [y]))) else Nx H3) := by
  refine lc_list (K := K) (a := a) (xs := xs.map sv) (fun i H => Same H1 H ∧ ∃ vs, H D = some (.lst vs) ∧ Paired (F H) vs (xs.take i)) ⟨new hD, [], upd_same, .nil⟩ (fun i H _ p => p.1.seq hS) (fun i x H hx p => ?_) (fun H p => ?_)
  · rw [List.getElem?_map] at hx
    cases e : xs[i]? with
    | none => rw [e] at hx; cases hx
    | some y =>
      rw [e] at hx
      obtain rfl : sv y = x := Option.some.inj hx
      obtain ⟨s0, vs, h1, h2⟩ := p
      have e2 : xs.take (i + 1) = xs.take i ++ [y] := by rw [List.take_add_one, e]; rfl
      refine ⟨wipe1 σ j _, ?_⟩
      refine he y (List.mem_of_getElem? e) H s0 _ fun v H3 s3 hf => ⟨vs, s3 _ _ h1, ?_, mutd (s0.trans s3) hD, vs ++ [v], upd_same, ?_⟩
      · refine szl ?_
        rw [Paired.length h2, List.length_take]
        have : i < xs.length := (List.getElem?_eq_some_iff.mp e).1
        omega
      · have nt : ∀ t u, H3 t = some (.tup u) → upd H3 D (.lst (vs ++ [v])) t = some (.tup u) := fun t u et => by
          rw [upd_ne (fun z => by rw [z, s3 _ _ h1] at et; cases et)]; exact et
        rw [e2]
        exact Paired.snoc (Paired.mapP h2 fun a b h => Fm nt (Fm (fun t u => s3 t _) h)) (Fm nt hf)
  · obtain ⟨s0, vs, h1, h2⟩ := p
    rw [List.length_map, List.take_length] at h2
    exact hd H vs s0 h1 h2
end
end One

namespace One
open PySem PySem.Spec PyProof.Rows L2
/-! ### max(numbers, default=0) -/
def most : List Nat → Nat
  | [] => 0
  | x :: xs => max x (most xs)
theorem most_le {ns : List Nat} : ∀ n ∈ ns, n ≤ most ns := by
  induction ns with
  | nil => exact fun _ h => nomatch h
  | cons x xs ih =>
    intro n hn
    show n ≤ max x (most xs)
    rcases List.mem_cons.mp hn with rfl | hn
    · exact Nat.le_max_left _ _
    · exact Nat.le_trans (ih n hn) (Nat.le_max_right _ _)
theorem most_snoc (ns : List Nat) (n : Nat) : most (ns ++ [n]) = max (most ns) n := by
  induction ns with
  | nil => show max n 0 = max 0 n; omega
  | cons x xs ih =>
    show max x (most (xs ++ [n])) = max (max x (most xs)) n
    rw [ih]; omega
theorem maxOf_most (x : Nat) (ns : List Nat) : PySem.W.maxOf (Int.ofNat x) (ns.map Int.ofNat) = Int.ofNat (max x (most ns)) := by
  unfold PySem.W.maxOf
  induction ns generalizing x with
  | nil => exact congrArg Int.ofNat (by show x = max x 0; omega)
  | cons y ns ih =>
    rw [List.map_cons, List.foldl_cons]
    have e : (if PySem.W.DatumOrd.lt (Int.ofNat x) (Int.ofNat y) = true then Int.ofNat y else Int.ofNat x) = Int.ofNat (max x y) := by
      show (if decide (Int.ofNat x < Int.ofNat y) = true then Int.ofNat y else Int.ofNat x) = _
      by_cases h : x < y
      · have h' : Int.ofNat x < Int.ofNat y := Int.ofNat_lt.mpr h
        rw [if_pos (decide_eq_true h'), Nat.max_eq_right (Nat.le_of_lt h)]
      · have h' : ¬ decide (Int.ofNat x < Int.ofNat y) = true := fun z => h (Int.ofNat_lt.mp (of_decide_eq_true z))
        rw [if_neg h', Nat.max_eq_left (Nat.le_of_not_lt h)]
    rw [e, ih]
    exact congrArg Int.ofNat (by show max (max x y) (most ns) = max x (max y (most ns)); omega)
def tMaxD (K : PySem.W.Frag) (ta : TA) : TE := fun σ H Q => ta σ H fun vs H1 => ∃ a, vs = [.ref a] ∧ ∃ ns : List Nat, SqL K H1 a (ns.map fun n => V.int (n : Nat)) ∧ Q (.int (most ns : Nat)) H1
theorem hold_nats {h : Heap} : ∀ {us : List Value} {ns : List Nat}, Vals (ns.map fun n => V.int (n : Nat)) us → PySem.W.HoldAll h us (ns.map Int.ofNat)
  | [], [], _ => .nil
  | _ :: _, n :: ns, .cons r t => by
    obtain ⟨k, rfl⟩ := r
    exact .cons ⟨[], .int _ _⟩ (hold_nats t)
theorem pe_maxD {X : Cx} {p p2 p3 pos : Pos} {j : Nat} {e : Expr} {ta : TA} (hc : X.calm = true) (hu : X.A.units + 64 < cLine) (hg : Gl X "max") (hm : X.mg "max" = none) (ha : PA X [e] ta)
    (h1 : backTo pos (starEach [e] X.env) = (false, eval e X.env) :: backTo pos (starEach [] X.env) := by rfl) (hpl : (backTo pos (starEach [e] X.env)).any (·.1) = false := by rfl)
    (hall : (backToKw pos (keywordEach [⟨some (Str.ofString "default"), .Constant (.int 0) j p2, p3⟩] X.env)).all (·.1.isSome) = true := by rfl) (hnone : (backToKw pos (keywordEach [⟨some (Str.ofString "default"), .Constant (.int 0) j p2, p3⟩] X.env)).any (·.1.isNone) = false := by rfl) (hks : (backToKw pos (keywordEach [⟨some (Str.ofString "default"), .Constant (.int 0) j p2, p3⟩] X.env)).filterMap (·.1) = [Str.ofString "default"] := by rfl) :
    PE X (.Call (.Name "max" p) [e] [⟨some (Str.ofString "default"), .Constant (.int 0) j p2, p3⟩] pos) (tMaxD X.K ta) := by
  refine ⟨fun pins s σ H Q I h => ?_⟩
  refine wpAny_Call_Name_kw (ld_blt I hg hm (show bootBuiltins (Str.ofString "max") = some (.builtin "max") by decide +kernel) ?_)
  refine PyProof.Rows.callWith_kw (thn (ha.run pos pins s σ H _ I h) fun us s1 ⟨vs, H1, I1, r1, q1⟩ => ?_) h1 hpl hall hnone
  obtain ⟨a, rfl, ns, hS, q⟩ := q1
  obtain rfl := Vals.ref1 r1
  show wpAny _ _ (evalAll ((do let v ← eval (.Constant (.int 0) j p2) X.env; standAt pos; pure v) :: [])) _ _ s1
  refine wpAny_evalAll_cons (wpAny_bind (wpAny_Constant_int (wpAny_bind (wpAny_standAt (wpAny_pure (wpAny_evalAll_nil ?_))))))
  rw [hks]
  obtain ⟨its, rv, pl, _⟩ := I1.list hS
  have I2 := I1.tok (s1.toks + 1)
  have fin : ∀ (v : Value) (n : Nat) (h' : Heap) (tk : Nat), RelV (.int (n : Nat)) v → n = most ns → (∀ b o, s1.heap.get? b = some o → h'.get? b = some o) → EP X pins σ Q v { s1 with heap := h', toks := tk } := fun v n h' tk r e k =>
    ⟨.int (n : Nat), H1, I1.kept (t' := tk) k, r, by rw [e]; exact q⟩
  refine PySem.W.max_list_datum_default (α := Int) (xs := ns.map Int.ofNat) (I1.ok.hd hc) pl.isList (hold_nats rv) ?_ (fun e0 h' tk k => ?_) fun y ys i v h' tk e0 hi hv k => ?_
  · show X.A.units + 1 + 0 < cLine
    omega
  · obtain rfl : ns = [] := List.map_eq_nil_iff.mp e0
    exact fin _ 0 h' tk ⟨_, rfl⟩ rfl k
  · cases ns with
    | nil => cases e0
    | cons n ns =>
      obtain ⟨rfl, rfl⟩ := List.cons.inj e0
      rw [maxOf_most] at hv
      obtain ⟨as, rd⟩ := hv
      cases rd with
      | int i t => exact fin _ _ h' tk ⟨_, rfl⟩ rfl k
section
variable {tt : TT} {te : TE} {σ : L2.St} {H1 : Hp}
/-- a comprehension over the keys of the locked dict at d, all of them texts -/
theorem keys_lc {d : Addr} {od : Obj} {kvs : List (Key × V)} {ks : List Wd} {j : Nat} (hk : kvs.map (·.1) = ks.map fun a => (.inr (S a) : Key)) (hd : H1 d = some (.frz od (.dK kvs))) (hz : ks.length ≤ 100000)
    (c : Wd → Bool) (Qd : Addr → Hp → Prop) (ht : ∀ x ∈ ks, EvB tt ((wipe σ [j]).set j (some (sv x))) H1 (c x)) (he : ∀ x ∈ ks, c x = true → EvV te ((wipe σ [j]).set j (some (sv x))) H1 (sv x))
    (hq : ∀ D H', H1 D = none → Same H1 H' → H' D = some (.lst ((ks.filter c).map sv)) → Qd D H') :
    ∃ d' o, V.ref d = .ref d' ∧ ((∃ kvs, H1 d' = some (.frz o (.dK kvs)) ∧ ∀ D, H1 D = none → ∃ W : Nat → Nat → Hp → Prop, (∃ m, W 0 m (upd H1 D (.lst []))) ∧ ∀ i m H, W i m H →
      ((Itk d' o kvs).stop i H ∧ Qd D H) ∨ ((Itk d' o kvs).go i H ∧ ∃ Nx : Hp → Prop, (∀ H', Nx H' → ∃ m', m' < m ∧ W (i + 1) m' H') ∧ ∀ x H', (Itk d' o kvs).yld i H x H' → gName j x (wipe σ [j]) H' fun σ2 H2 => wipe σ2 [j] = wipe σ [j] ∧ tt σ2 H2 fun b H3 =>
        if b = true then te σ2 H3 fun y H4 => ∃ acc, H4 D = some (.lst acc) ∧ acc.length < sizeLine ∧ Nx (upd H4 D (.lst (acc ++ [y]))) else Nx H3)) ∨
      ∃ kvs, H1 d' = some (.frz o (.dT kvs)) ∧ ∀ D, H1 D = none → ∃ W : Nat → Nat → Hp → Prop, (∃ m, W 0 m (upd H1 D (.lst []))) ∧ ∀ i m H, W i m H →
      ((Itkt d' o kvs).stop i H ∧ Qd D H) ∨ ((Itkt d' o kvs).go i H ∧ ∃ Nx : Hp → Prop, (∀ H', Nx H' → ∃ m', m' < m ∧ W (i + 1) m' H') ∧ ∀ x H', (Itkt d' o kvs).yld i H x H' → gName j x (wipe σ [j]) H' fun σ2 H2 => wipe σ2 [j] = wipe σ [j] ∧ tt σ2 H2 fun b H3 =>
        if b = true then te σ2 H3 fun y H4 => ∃ acc, H4 D = some (.lst acc) ∧ acc.length < sizeLine ∧ Nx (upd H4 D (.lst (acc ++ [y]))) else Nx H3)) := by
  have kl : kvs.length = ks.length := by
    have := congrArg List.length hk
    rwa [List.length_map, List.length_map] at this
  refine ⟨d, od, rfl, .inl ⟨kvs, hd, fun D hD => ?_⟩⟩
  refine lc_it walk_keys (fun i H => Same H1 H ∧ H D = some (.lst (((ks.take i).filter c).map sv))) ⟨new hD, upd_same⟩ (fun i H _ p => p.1 _ _ hd) (fun i x H H' hi p y => ?_) (fun H p => ?_)
  · obtain ⟨rfl, k, v, hkv, rfl⟩ := y
    have hi' : i < ks.length := by omega
    have hq : (kvs.map (·.1))[i]? = some k := by rw [List.getElem?_map, hkv]; rfl
    rw [hk, List.getElem?_map, List.getElem?_eq_getElem hi'] at hq
    obtain rfl : (.inr (S ks[i]) : Key) = k := Option.some.inj hq
    have hm : ks[i] ∈ ks := List.getElem_mem hi'
    have e2 : ks.take (i + 1) = ks.take i ++ [ks[i]] := by rw [List.take_add_one, List.getElem?_eq_getElem hi']; rfl
    refine ⟨wipe1 σ j _, ht _ hm _ p.1 _ fun H2 s2 => ?_⟩
    refine itb (fun hc => ?_) fun hc => ?_
    · refine he _ hm hc H2 (p.1.trans s2) _ fun H3 s3 => ⟨_, s3 _ _ (s2 _ _ p.2), ?_, mutd ((p.1.trans s2).trans s3) hD, ?_⟩
      · refine szl ?_
        rw [List.length_map]
        have h1 := List.length_filter_le c (ks.take i)
        rw [List.length_take] at h1
        omega
      · rw [upd_same, e2, List.filter_append, List.map_append, List.filter_cons, if_pos hc]; rfl
    · refine ⟨p.1.trans s2, ?_⟩
      rw [s2 _ _ p.2, e2, List.filter_append, List.filter_cons, if_neg (by rw [hc]; decide)]
      simp
  · rw [kl, List.take_length] at p
    exact hq D H hD p.1 p.2
end
end One

namespace One
open PySem PySem.Spec PyProof.Rows L2
/-! ### sorted(a dict of texts), any length -/
def rSortedDA : List V → Hp → VK → Prop := fun xs H Q => ∃ a, xs = [V.ref a] ∧ ∃ kvs, Rd H a (.dK kvs) ∧ ∃ ks : List Wd, kvs.map (·.1) = ks.map (fun a => (.inr (S a) : Key)) ∧ ks.length ≤ 1000 ∧
  ∀ ys : List Wd, ys.Perm ks → sortedS (ys.map S) = true → ∀ p : Addr, H p = none → Q (.ref p) (upd H p (.lst (ys.map sv)))
theorem call_sortedDA {X : Cx} (calm : X.calm = true) : CallR X (.builtin "sorted") rSortedDA := by
  rintro pins s0 σ H xs us Q I0 rv ⟨ad, rfl, kvs, rd, ks, ek, lk, fin⟩
  obtain ⟨u1, rfl, r1⟩ := vals1 rv
  obtain rfl : u1 = Value.ref ad := r1
  obtain ⟨_, low, vs, kv, dof⟩ := dk_rd I0.hok rd
  obtain ⟨ep, at_⟩ := dof.dictAt
  have ev : vs.map (fun p => kV p.1) = ks.map sv := by
    have e1 : vs.map (·.1) = ks.map (fun a => (.inr (S a) : Key)) := kv.keys.symm.trans ek
    have e2 := congrArg (List.map (kV ·)) e1
    rw [List.map_map, List.map_map] at e2
    exact e2
  have nv : vs.length = ks.length := by
    have := congrArg List.length ev
    rwa [List.length_map, List.length_map] at this
  have big : vs.length ≤ sizeLine := by rw [nv]; exact sz (by omega)
  refine Calls.call_function_entry kind_sorted plain_sorted entry_sorted (args_sorted1 _) (show wpAny _ _ (Builtin.«sorted» ⟨[.ref ad], []⟩) _ _ s0 from ?_)
  unfold Builtin.«sorted»
  refine wpAny_bind (m := checkCount "sorted" 1 1 _) (wpAny_pure (wpAny_bind (PySem.W.kdu_collect (A := X.A.in1) (PySem.W.kdl_dict (knd := mixKind X.prog X.w) (kvs := vs) (ep := ep) low) (I0.ok.hd calm) at_ big fun g tk got kp io => ?_)))
  have gl : got.toList.length = vs.length := by rw [Array.length_toList, io.1]
  have gv : Vals (ks.map sv) got.toList := by
    rw [← ev]
    exact keys_at gl fun j v e => io.2 j v (by rw [← Array.getElem?_toList]; exact e)
  have gS : StrsAre got.toList (ks.map S) := by
    rw [← map_strs] at gv
    exact gv.strs
  have J : Inv X pins σ H { s0 with heap := g, toks := tk } := I0.kept kp
  refine wpAny_bind (wpAny_newList ?_ (by rw [gl]; exact big))
  have top : (g.push (seqObj "list" got.toList.toArray 0)).get? g.objs.size = some (seqObj "list" got.toList.toArray 0) := Heap.get?_push_size _ rfl
  refine wpAny_bind (wpAny_holding (wpAny_call_entry (s := { s0 with heap := g.push (seqObj "list" got.toList.toArray 0), toks := tk }) slot_list_sort ⟨_, top, rfl⟩ entry_list_sort (list_sort_treeKAny strKind_oneLt (s := { s0 with heap := g.push (seqObj "list" got.toList.toArray 0), toks := tk }) top gS.keysOf (fun _ _ _ e => keyKind_strs (by rw [← e]; exact gS)) (by rw [gl]; exact big) fun st c1 c2 => ⟨_, rfl, ?_⟩) (args_list_sort _)))
  obtain ⟨zs, z1, z2, z3⟩ := sorted_out_str gS c1 c2
  obtain ⟨ys, rfl, py⟩ := perm_S z2
  obtain ⟨ee, hee⟩ := sortedHeap_at (vs := got.toList) (out := (arrOf st).map (·.2)) top
  have vo : Vals (ys.map sv) ((arrOf st).map (·.2)).toList := by rw [← map_strs]; exact vals_of_strs z1
  have ll : (ys.map sv).length ≤ sizeLine := by rw [List.length_map, py.length_eq, ← nv]; exact big
  refine wpAny_pure ⟨_, rfl, .ref g.objs.size, upd H g.objs.size (.lst (ys.map sv)), J.laid (t' := tk) (fun b o e => ?_) (Nat.le_refl _) (show ObjOk X.prog X.w _ _ _ (.lst (ys.map sv)) from ⟨ll, _, ee, vo, by rw [Array.toArray_toList]; exact hee⟩), rfl, fin ys py z3 _ (J.hok.fresh (Nat.le_refl _))⟩
  have lt : b < g.objs.size := Heap.lt_size e
  rw [sortedHeap_old (Nat.ne_of_lt lt) (size_push' _ _ ▸ Nat.lt_succ_of_lt lt), Heap.get?_push_of_some _ e]
theorem rise_pair : ∀ (p : Wd) (xs : List Wd), risingS (S p) (xs.map S) = true → (p :: xs).Pairwise (fun a b : Wd => a ≤ b)
  | p, [], _ => List.pairwise_singleton _ _
  | p, x :: xs, h => by
    obtain ⟨h1, h2⟩ := Bool.and_eq_true_iff.mp (show (!ltCps (S x).cps.toList (S p).cps.toList && risingS (S x) (xs.map S)) = true from h)
    have ih := rise_pair x xs h2
    have px : p ≤ x := by
      rw [ltCps_eq] at h1
      have h2 : (!decide (x < p)) = true := h1
      exact fun z => by rw [decide_eq_true z] at h2; cases h2
    refine List.pairwise_cons.mpr ⟨fun y hy => ?_, ih⟩
    rcases List.mem_cons.mp hy with rfl | hy
    · exact px
    · exact List.le_trans px ((List.pairwise_cons.mp ih).1 y hy)
theorem sorted_pair {xs : List Wd} (h : sortedS (xs.map S) = true) : xs.Pairwise (fun a b : Wd => a ≤ b) := by
  cases xs with
  | nil => exact .nil
  | cons x xs => exact rise_pair x xs h
theorem sorted_uniq {xs ys : List Wd} (p : xs.Perm ys) (h : sortedS (xs.map S) = true) (k : sortedS (ys.map S) = true) : xs = ys :=
  List.Perm.eq_of_pairwise (le := fun a b : Wd => a ≤ b) (fun a b _ _ h1 h2 => List.le_antisymm h1 h2) (sorted_pair h) (sorted_pair k) p
end One


set_option Elab.async false
set_option linter.all false
set_option maxRecDepth 100000
set_option maxHeartbeats 400000
set_option pp.maxSteps 700
namespace One
open PySem PySem.Spec PyProof.Rows L2
local macro_rules | `(tactic| fail "as") => `(tactic| with_reducible assumption)
local macro_rules | `(tactic| fail "same") => `(tactic| first
  | with_reducible exact Same.refl _
  | fail "as"
  | ((with_reducible show Same _ (upd _ _ _)); first
    | exact Same.trans (by fail "same") (new (by fail "as"))
    | exact mutd (by fail "same") (by fail "fr"))
  | ((with_reducible refine Same.trans ?_ (by fail "as")); fail "same"))
local macro_rules | `(tactic| fail "fr") => `(tactic| first
  | fail "as"
  | ((with_reducible refine Same.free ?_ (by fail "as")); fail "same"))
local macro_rules | `(tactic| fail "look") => `(tactic| first
  | ((with_reducible show upd _ _ _ _ = _); first
    | with_reducible exact upd_same
    | with_reducible exact upd_nil
    | with_reducible exact upd_snoc
    | ((with_reducible refine upd_at (by fail "as") ?_); fail "look")
    | ((with_reducible refine new_at (by fail "fr") ?_); fail "look"))
  | fail "as"
  | ((with_reducible refine same_at (by fail "as") ?_); fail "look")
  | ((with_reducible refine same_at ?_ (by fail "as")); fail "same"))
local macro_rules | `(tactic| fail "ne") => `(tactic| (refine ne_free (by fail "as") (by fail "look")))
local macro_rules | `(tactic| fail "seq") => `(tactic| first
  | fail "as"
  | ((with_reducible show SqL _ _ _ _); with_reducible exact SqL.of (by fail "look"))
  | ((with_reducible show SqT _ _ _ _); with_reducible exact SqT.of (by fail "look"))
  | ((with_reducible refine Same.seq ?_ (by fail "as")); fail "same")
  | ((with_reducible refine sqT ?_ (by fail "as")); fail "same"))
local macro_rules | `(tactic| fail "ins") => `(tactic| ((with_reducible show _ = some (HO.ins _ _ _)); fail "look"))
local macro_rules | `(tactic| fail "sq") => `(tactic| first
  | ((with_reducible show Rd _ _ _); first | exact .inl (by fail "look") | exact .inr ⟨_, by fail "look"⟩)
  | ((with_reducible show SqL _ _ _ _); fail "seq")
  | ((with_reducible show SqT _ _ _ _); fail "seq")
  | ((with_reducible show _ = some _); fail "look"))
local macro_rules | `(tactic| fail "le") => `(tactic| first
  | fail "as"
  | with_reducible exact sz (by simp)
  | ((try simp only [List.length_append, List.length_cons, List.length_nil, List.length_map, List.length_replicate, List.length_set]); omega)
  | exact Int.emod_nonneg _ (by omega)
  | decide)
local macro_rules | `(tactic| fail "lf") => `(tactic| first
  | fail "as"
  | ((with_reducible show _ = _); exact rfl)
  | ((with_reducible show _ ≤ _); fail "le")
  | ((with_reducible show _ < _); first | decide | fail "as" | omega)
  | fail "sq"
  | ((with_reducible show CDiv _ _); exact ⟨by decide, by decide⟩)
  | ((with_reducible show CMul _ _); first | exact .inl ⟨by decide, by decide⟩ | exact .inr ⟨by decide, by decide⟩ | exact .inl ⟨by omega, by omega⟩ | exact .inr ⟨by omega, by omega⟩)
  | exact ⟨_, rfl⟩
  | exact ⟨_, by fail "sq"⟩
  | exact tyL (by fail "seq")
  | exact tyD (by fail "look")
  | (refine ⟨?_, ?_, ?_, ?_⟩ <;> omega)
  | (show (0 : Int) < _; first | decide | omega)
  | (show (_ : Int) ≠ 0; first | decide | omega))
local macro_rules | `(tactic| fail "dp") => `(tactic| first
  | exact .str _ | exact .int _ | exact .bl _ | exact .non
  | exact .tup (by fail "seq") (by fail "dps")
  | exact .lst (by fail "seq") (by fail "dps"))
local macro_rules | `(tactic| fail "dps") => `(tactic| first
  | fail "as"
  | with_reducible exact dpAll_strs _
  | with_reducible exact dpAll_ints _
  | ((with_reducible show DpAll _ _ (_ :: _) _); exact .cons (by fail "dp") (by fail "dps"))
  | exact .nil)
local macro_rules | `(tactic| fail "dpS") => `(tactic| ((with_reducible show Dp _ _ _ _); fail "dp"))
local macro_rules | `(tactic| fail "ga") => `(tactic| ((with_reducible show _ = some _); fail "as"))
local macro_rules | `(tactic| fail "gE") => `(tactic| first
  | with_reducible refine ⟨_, _, _, _, _, rfl, by fail "ins", by fail "as", by fail "as", rfl, ?_⟩
  | with_reducible refine ⟨_, _, _, _, rfl, by fail "ins", by fail "as", by fail "as", Nat.le_of_ble_eq_true rfl, ?_⟩
  | with_reducible refine ⟨_, _, _, rfl, by fail "ins", rfl, ?_⟩
  | with_reducible refine ⟨_, by fail "dpS", ?_⟩
  | refine ⟨_, kI _, ?_⟩
  | refine ⟨_, kS _, ?_⟩
  | refine ⟨_, by fail "ga", ?_⟩
  | refine ⟨_, rfl, ?_⟩
  | refine ⟨_, _, rfl, rfl, ?_⟩
  | refine ⟨_, _, rfl, ?_⟩
  | refine ⟨_, _, _, rfl, ?_⟩
  | refine ⟨_, _, _, _, rfl, ?_⟩
  | refine ⟨_, rfl, rfl, ?_⟩
  | refine ⟨_, _, _, rfl, rfl, ?_⟩
  | refine ⟨_, by fail "sq", ?_⟩
  | refine ⟨_, _, rfl, by fail "sq", rfl, ?_⟩
  | refine ⟨_, TyW.int _, ?_⟩
  | refine ⟨_, TyW.str _, ?_⟩
  | refine ⟨_, TyW.non, ?_⟩
  | refine ⟨_, TyW.bl _, ?_⟩
  | refine ⟨_, TyW.tup (by fail "look"), ?_⟩
  | refine ⟨_, TyW.lst (by fail "look"), ?_⟩
  | refine ⟨_, TyW.dict (by fail "look"), ?_⟩)
local macro_rules | `(tactic| fail "g1") => `(tactic| first
  | (refine (show ∃ _, _ from ?_); fail "gE")
  | (refine (show _ ∧ _ from ?_); refine And.intro (by fail "lf") ?_))
local macro_rules | `(tactic| fail "go") => `(tactic| repeat (fail "g1"))
local macro_rules | `(tactic| fail "gi") => `(tactic| repeat (first
  | fail "g1"
  | refine (show Ret _ _ _ from fun H' s' => ?_)
  | refine (show RetL _ _ _ from fun p H' s' np hp => ?_)
  | refine (show RetT _ _ _ from fun p H' s' np hp => ?_)
  | refine (show RetD _ _ _ from fun p H' s' np hp => ?_)
  | refine (show ∀ p : Addr, _ = none → _ from fun p hp => ?_)))
def top (i : Nat) : Stmt := PySem.Challenge.pw_onereading_k10_heights_of_rests.main.body.getD i (.Pass ⟨0, 0, 0, 0⟩)
section
variable {P : Program} {w : World} {K : PySem.W.Frag} {mg : Str → Option Value} {base : Heap} {C : Addr}

def left (a b : Wd) : Option Wd := if b.isPrefixOf a = true then some (a.drop b.length) else none
abbrev s_left_of : Stmt := top 12
theorem sc_left_of : FnScope ["text", "other"] ["text", "other"] (defScope s_left_of) := ⟨rfl, rfl, rfl, by decide +kernel, rfl, by decide +kernel, by decide +kernel⟩
def sp_left_of : Sp := fun vs H Q _ => ∃ a b : Wd, vs = [sv a, sv b] ∧ a.length ≤ 100000 ∧ b.length ≤ 100000 ∧ Q (optv (left a b)) H
theorem ok_left_of (B : Bi mg) (D : Def K mg "left_of" s_left_of) : Cal P w K mg base CX0 "left_of" 1 ["text", "other"] sp_left_of := by
  have nd := sc_left_of.nd
  refine D.cal sc_left_of (fun _ _ _ _ _ _ us hl => match us, hl with | [_, _], _ => rfl) (fun vs H Q E h => ?_) (fun f cdv A outer s H vs Q E hr h => ?_)
  · obtain ⟨_, _, rfl, _⟩ := h
    rfl
  · obtain ⟨a, b, rfl, ha, hb, q⟩ := h
    refine ⟨_, PSs.nox (pss_cons (ps_if (pt_val (pe_m1 PySem.F.slot_str_startswith PySem.F.type_str_startswith mt_stw (pv 0) (pv 1)))
        (pss_one (ps_ret (pe_slice (r := rSlW) sl_w (pv 0) (po_some (pe_callB call_lenw (by rfl) B.len PySem.boot_len (pa_cons (pv 1) pa_nil))) po_none)))
        pss_nil)
      (pss_one (ps_ret pe_non))), ?_⟩
    try dsimp only [cxOf, Cx.nox, Cx.wish]
    unfold left at q
    fail "go"
    refine itb (fun e => ?_) fun e => ?_
    · rw [if_pos e] at q
      fail "go"
      rw [cutW_from]
      exact q
    · rw [if_neg (by rw [e]; decide)] at q
      exact q

def step (r w : Wd) : Option (Wd × Bool) := match left r w with
  | some x => some (x, false)
  | none => match left w r with
    | some x => some (x, true)
    | none => none
abbrev s_stepped : Stmt := top 15
theorem sc_stepped : FnScope ["rest", "word", "found"] ["rest", "word"] (defScope s_stepped) := ⟨rfl, rfl, rfl, by decide +kernel, rfl, by decide +kernel, by decide +kernel⟩
def sp_stepped : Sp := fun vs H Q _ => ∃ a b : Wd, vs = [sv a, sv b] ∧ a.length ≤ 100000 ∧ b.length ≤ 100000 ∧ (step a b = none → Ret H Q .non) ∧ ∀ r k, step a b = some (r, k) → RetT H Q [sv r, .bl k]
theorem ok_stepped (B : Bi mg) (D : Def K mg "stepped" s_stepped) (c_left_of : Cal P w K mg base CX0 "left_of" 1 ["text", "other"] sp_left_of) : Cal P w K mg base CX0 "stepped" 2 ["rest", "word"] sp_stepped := by
  have nd := sc_stepped.nd
  refine D.cal sc_stepped (fun _ _ _ _ _ _ us hl => match us, hl with | [_, _], _ => rfl) (fun vs H Q E h => ?_) (fun f cdv A outer s H vs Q E hr h => ?_)
  · obtain ⟨_, _, rfl, _⟩ := h
    rfl
  · obtain ⟨a, b, rfl, ha, hb, q0, q1⟩ := h
    refine ⟨_, PSs.nox (pss_cons (ps_set (i := 2) nd rfl (.inl rfl) (pe_cal c_left_of hr (pa_cons (pv 0) (pa_cons (pv 1) pa_nil))))
      (pss_cons (ps_if (pt_cmpR op_notN (pv 2) pe_non (nomark _))
        (pss_one (ps_ret (pe_tup (pa_cons (pv 2) (pa_cons pe_bl pa_nil)))))
        pss_nil)
      (pss_cons (ps_set (i := 2) nd rfl (.inl rfl) (pe_cal c_left_of hr (pa_cons (pv 1) (pa_cons (pv 0) pa_nil))))
      (pss_cons (ps_if (pt_cmpR op_notN (pv 2) pe_non (nomark _))
        (pss_one (ps_ret (pe_tup (pa_cons (pv 2) (pa_cons pe_bl pa_nil)))))
        pss_nil)
      (pss_one (ps_ret pe_non)))))), ?_⟩
    try dsimp only [cxOf, Cx.nox, Cx.wish]
    have sn : ∀ x, left a b = some x → step a b = some (x, false) := fun x e => by unfold step; rw [e]
    have sm : ∀ x, left a b = none → left b a = some x → step a b = some (x, true) := fun x e e2 => by unfold step; rw [e, e2]
    have s0 : left a b = none → left b a = none → step a b = none := fun e e2 => by unfold step; rw [e, e2]
    fail "go"
    cases e : left a b with
    | some x =>
      fail "go"
      exact fun p hp => (q1 _ _ (sn x e)).at (Same.refl _) hp
    | none =>
      fail "go"
      cases e2 : left b a with
      | some x =>
        fail "go"
        exact fun p hp => (q1 _ _ (sm x e e2)).at (Same.refl _) hp
      | none =>
        fail "go"
        exact q0 (s0 e e2) _ (Same.refl _)
/-! ### the law's own -/

/-! ### tables of rests, by themselves -/
inductive How where
  | beg (w o : Wd) | stp (r w : Wd)
abbrev Tb : Type := List (Wd × Nat × How)
def look (E : Tb) (r : Wd) : Option (Nat × How) := (E.find? fun e => decide (e.1 = r)).map (·.2)
def putT (E : Tb) (r : Wd) (n : Nat) (h : How) : Tb := if (E.any fun e => decide (e.1 = r)) = true then E.map (fun e => if e.1 = r then (r, n, h) else e) else E ++ [(r, n, h)]
def keysT (E : Tb) : List Wd := E.map (·.1)
def dE (E : Tb) : List (Key × V) := E.map fun e => (.inr (S e.1), .int (e.2.1 : Nat))
theorem look_pos {e : Wd × Nat × How} {E : Tb} {r : Wd} (h : e.1 = r) : look (e :: E) r = some e.2 := by simp [look, List.find?_cons, h]
theorem look_neg {e : Wd × Nat × How} {E : Tb} {r : Wd} (h : ¬ e.1 = r) : look (e :: E) r = look E r := by simp [look, List.find?_cons, h]
theorem look_any (r : Wd) : ∀ E : Tb, (E.any fun e => decide (e.1 = r)) = (look E r).isSome
  | [] => rfl
  | e :: E => by
    by_cases h : e.1 = r
    · rw [List.any_cons, look_pos h, decide_eq_true h]; rfl
    · rw [List.any_cons, look_neg h, decide_eq_false h, Bool.false_or, look_any r E]
theorem look_mem {r : Wd} {p : Nat × How} : ∀ {E : Tb}, look E r = some p → (r, p) ∈ E
  | [], h => by cases h
  | e :: E, h => by
    by_cases q : e.1 = r
    · rw [look_pos q] at h
      obtain rfl := Option.some.inj h
      rw [← q]; exact List.mem_cons_self
    · rw [look_neg q] at h
      exact List.mem_cons_of_mem _ (look_mem h)
theorem mem_look {r : Wd} {p : Nat × How} : ∀ {E : Tb}, (keysT E).Nodup → (r, p) ∈ E → look E r = some p
  | [], _, h => by cases h
  | e :: E, nd, h => by
    have nd' := List.nodup_cons.mp nd
    rcases List.mem_cons.mp h with rfl | h
    · exact look_pos rfl
    · have q : ¬ e.1 = r := fun z => nd'.1 (List.mem_map.mpr ⟨_, h, z.symm⟩)
      rw [look_neg q]; exact mem_look nd'.2 h
theorem key_look {r : Wd} {E : Tb} : r ∈ keysT E ↔ (look E r).isSome = true := by
  rw [← look_any, List.any_eq_true]
  constructor
  · intro h
    obtain ⟨e, he, rfl⟩ := List.mem_map.mp h
    exact ⟨e, he, decide_eq_true rfl⟩
  · rintro ⟨e, he, h⟩
    exact List.mem_map.mpr ⟨e, he, of_decide_eq_true h⟩
theorem look_map (r : Wd) (n : Nat) (h : How) (r' : Wd) : ∀ E : Tb, look (E.map fun e => if e.1 = r then (r, n, h) else e) r' = (look E r').map fun p => if r' = r then (n, h) else p
  | [] => rfl
  | e :: E => by
    rw [List.map_cons]
    by_cases a : e.1 = r
    · rw [if_pos a]
      by_cases b : e.1 = r'
      · rw [look_pos (e := (r, n, h)) (a.symm.trans b), look_pos b, Option.map_some, if_pos (b.symm.trans a)]
      · rw [look_neg (e := (r, n, h)) (fun z => b (a.trans z)), look_neg b, look_map r n h r' E]
    · rw [if_neg a]
      by_cases b : e.1 = r'
      · rw [look_pos b, look_pos b, Option.map_some, if_neg (fun z => a (b.trans z))]
      · rw [look_neg b, look_neg b, look_map r n h r' E]
theorem look_snoc (r : Wd) (n : Nat) (h : How) (r' : Wd) : ∀ E : Tb, look E r = none → look (E ++ [(r, n, h)]) r' = if r' = r then some (n, h) else look E r'
  | [], _ => by
    by_cases b : r = r'
    · rw [if_pos b.symm]; exact look_pos b
    · rw [if_neg (fun z => b z.symm)]; exact look_neg b
  | e :: E, hn => by
    have a : ¬ e.1 = r := fun z => by rw [look_pos z] at hn; cases hn
    rw [look_neg a] at hn
    rw [List.cons_append]
    by_cases b : e.1 = r'
    · rw [look_pos b, look_pos b, if_neg (fun z => a (b.trans z))]
    · rw [look_neg b, look_neg b, look_snoc r n h r' E hn]
theorem look_put (E : Tb) (r : Wd) (n : Nat) (h : How) (r' : Wd) : look (putT E r n h) r' = if r' = r then some (n, h) else look E r' := by
  unfold putT
  rw [look_any]
  cases q : look E r with
  | none => rw [if_neg (by simp)]; exact look_snoc r n h r' E q
  | some p =>
    rw [if_pos (by rfl), look_map]
    by_cases a : r' = r
    · rw [if_pos a, a, q, Option.map_some, if_pos rfl]
    · rw [if_neg a]
      cases look E r' with
      | none => rfl
      | some p' => rw [Option.map_some, if_neg a]
theorem keys_put (E : Tb) (r : Wd) (n : Nat) (h : How) : keysT (putT E r n h) = if r ∈ keysT E then keysT E else keysT E ++ [r] := by
  unfold putT
  by_cases a : r ∈ keysT E
  · have b := key_look.mp a
    rw [look_any, if_pos b, if_pos a]
    unfold keysT
    rw [List.map_map]
    refine List.map_congr_left fun e _ => ?_
    show (if e.1 = r then (r, n, h) else e).1 = e.1
    by_cases c : e.1 = r
    · rw [if_pos c, c]
    · rw [if_neg c]
  · have b : ¬ (look E r).isSome = true := fun z => a (key_look.mpr z)
    rw [look_any, if_neg b, if_neg a]
    unfold keysT
    rw [List.map_append]; rfl
theorem nodup_put {E : Tb} {r : Wd} {n : Nat} {h : How} (nd : (keysT E).Nodup) : (keysT (putT E r n h)).Nodup := by
  rw [keys_put]
  by_cases a : r ∈ keysT E
  · rw [if_pos a]; exact nd
  · rw [if_neg a]; exact List.nodup_append.mpr ⟨nd, by simp, fun x hx y hy => by rw [List.mem_singleton.mp hy]; exact fun z => a (z ▸ hx)⟩
theorem inrS {a b : Wd} : ((.inr (S a) : Key) = .inr (S b)) ↔ a = b := ⟨fun h => S_inj.mp (Sum.inr.inj h), fun h => by rw [h]⟩
theorem valV_dE (E : Tb) (r : Wd) : valV (dE E) (.inr (S r)) = (look E r).map fun p => V.int (p.1 : Nat) := by
  induction E with
  | nil => rfl
  | cons e E ih =>
    show valV ((.inr (S e.1), V.int (e.2.1 : Nat)) :: dE E) _ = _
    by_cases h : e.1 = r
    · rw [valV_pos (inrS.mpr h), look_pos h]; rfl
    · rw [valV_neg (fun z => h (inrS.mp z)), look_neg h, ih]
theorem putK_dE (E : Tb) (r : Wd) (n : Nat) (h : How) : putK (dE E) (.inr (S r)) (.int (n : Nat)) = dE (putT E r n h) := by
  unfold putK putT
  have e : ((dE E).any fun kv => decide (kv.1 = .inr (S r))) = (E.any fun e => decide (e.1 = r)) := by
    rw [valV_any, valV_dE, look_any, Option.isSome_map]
  rw [e]
  by_cases a : (E.any fun e => decide (e.1 = r)) = true
  · rw [if_pos a, if_pos a]
    unfold dE
    rw [List.map_map, List.map_map]
    refine List.map_congr_left fun x _ => ?_
    show (if (.inr (S x.1) : Key) = .inr (S r) then ((.inr (S x.1) : Key), V.int (n : Nat)) else (.inr (S x.1), V.int (x.2.1 : Nat))) = (.inr (S (if x.1 = r then (r, n, h) else x).1), V.int ((if x.1 = r then (r, n, h) else x).2.1 : Nat))
    by_cases c : x.1 = r
    · rw [if_pos (inrS.mpr c), if_pos c, c]
    · rw [if_neg (fun z => c (inrS.mp z)), if_neg c]
  · rw [if_neg a, if_neg a]
    unfold dE
    rw [List.map_append]; rfl
def offers (E : Tb) (r : Wd) (n : Nat) : Bool := match look E r with
  | none => true
  | some p => decide (n < p.1)
def offerT (E : Tb) (F : List Wd) (r : Wd) (n : Nat) (h : How) : Tb × List Wd := if offers E r n = true then (putT E r n h, F ++ [r]) else (E, F)
def beginT (E : Tb) (F : List Wd) (w o : Wd) : Tb × List Wd := match left w o with
  | some r => if w = o then (E, F) else offerT E F r w.length (.beg w o)
  | none => (E, F)
theorem left_len {a b r : Wd} (h : left a b = some r) : r.length ≤ a.length := by
  unfold left at h
  split at h
  · obtain rfl := Option.some.inj h
    rw [List.length_drop]; omega
  · cases h
theorem step_len {a b r : Wd} {k : Bool} (h : step a b = some (r, k)) : r.length ≤ a.length ∨ r.length ≤ b.length := by
  unfold step at h
  cases e1 : left a b with
  | some r1 =>
    rw [e1] at h
    obtain ⟨rfl, _⟩ := Prod.mk.inj (Option.some.inj h)
    exact .inl (left_len e1)
  | none =>
    rw [e1] at h
    cases e2 : left b a with
    | some r1 =>
      rw [e2] at h
      obtain ⟨rfl, _⟩ := Prod.mk.inj (Option.some.inj h)
      exact .inr (left_len e2)
    | none => rw [e2] at h; cases h
def far (n : Nat) (s : Wd) (k : Bool) : Nat := if k then n + s.length else n
def goT (E : Tb) (F : List Wd) (r w : Wd) : Tb × List Wd := match step r w, look E r with
  | some (s, k), some p => offerT E F s (far p.1 s k) (.stp r w)
  | _, _ => (E, F)

structure TableC (K : PySem.W.Frag) (C : Addr) : Prop where
  cl : Cls K C
  n1 : NoAttr K C "lengths"
  n2 : NoAttr K C "came"
  n3 : NoAttr K C "fresh"
def HowAt (H : Hp) (v : V) : How → Prop
  | .beg w o => ∃ t u, v = .ref t ∧ H t = some (.tup [.non, .ref u]) ∧ H u = some (.tup [sv w, sv o])
  | .stp r w => ∃ t, v = .ref t ∧ H t = some (.tup [sv r, sv w])
theorem HowAt.same {H H' : Hp} {v : V} {h : How} (s : Same H H') (a : HowAt H v h) : HowAt H' v h := by
  cases h with
  | beg w o => obtain ⟨t, u, e, h1, h2⟩ := a; exact ⟨t, u, e, s _ _ h1, s _ _ h2⟩
  | stp r w => obtain ⟨t, e, h1⟩ := a; exact ⟨t, e, s _ _ h1⟩
/-- behind H0 a Table stands at x -/
def tabF (la ca fa : Addr) : List (Str × V) := [("lengths", .ref la), ("came", .ref ca), ("fresh", .ref fa)]
structure TabAt (C : Addr) (H0 H : Hp) (x : Addr) (E : Tb) (F : List Wd) (dx la ca fa : Addr) (kc : List (Key × V)) : Prop where
  s : Same H0 H
  x0 : H0 x = none
  la0 : H0 la = none
  ca0 : H0 ca = none
  fa0 : H0 fa = none
  ne : la ≠ ca
  hx : H x = some (.ins C dx (tabF la ca fa))
  hl : H la = some (.dK (dE E))
  hc : H ca = some (.dK kc)
  hf : H fa = some (.lst (F.map sv))
  nd : (keysT E).Nodup
  kk : kc.map (·.1) = (keysT E).map fun r => (.inr (S r) : Key)
  how : ∀ r p, look E r = some p → ∃ v, valV kc (.inr (S r)) = some v ∧ HowAt H v p.2
theorem HowAt.upd {H : Hp} {v : V} {h : How} {a : Addr} {o : HO} (n : ∀ vs, H a ≠ some (.tup vs)) (k : HowAt H v h) : HowAt (L2.upd H a o) v h := by
  have one : ∀ {b vs}, H b = some (.tup vs) → L2.upd H a o b = some (.tup vs) := fun {b vs} e => by
    rw [upd_ne (fun z => n vs (by rw [← z]; exact e))]; exact e
  cases h with
  | beg w o => obtain ⟨t, u, e, h1, h2⟩ := k; exact ⟨t, u, e, one h1, one h2⟩
  | stp r w => obtain ⟨t, e, h1⟩ := k; exact ⟨t, e, one h1⟩
theorem keys_putK (kvs : List (Key × V)) (k : Key) (v : V) : (k ∈ kvs.map (·.1) → (putK kvs k v).map (·.1) = kvs.map (·.1)) ∧ (k ∉ kvs.map (·.1) → (putK kvs k v).map (·.1) = kvs.map (·.1) ++ [k]) := by
  have e : (kvs.any fun kv => decide (kv.1 = k)) = true ↔ k ∈ kvs.map (·.1) := by
    rw [List.any_eq_true, List.mem_map]
    exact ⟨fun ⟨x, h1, h2⟩ => ⟨x, h1, of_decide_eq_true h2⟩, fun ⟨x, h1, h2⟩ => ⟨x, h1, decide_eq_true h2⟩⟩
  unfold putK
  refine ⟨fun a => ?_, fun a => ?_⟩
  · rw [if_pos (e.mpr a), List.map_map]
    refine List.map_congr_left fun x _ => ?_
    show (if x.1 = k then (x.1, v) else x).1 = x.1
    split <;> rfl
  · rw [if_neg (fun z => a (e.mp z)), List.map_append]; rfl
theorem mem_kS {r : Wd} {E : Tb} : (.inr (S r) : Key) ∈ (keysT E).map (fun r => (.inr (S r) : Key)) ↔ r ∈ keysT E := by
  rw [List.mem_map]
  exact ⟨fun ⟨a, h1, h2⟩ => (inrS.mp h2) ▸ h1, fun h => ⟨r, h, rfl⟩⟩
theorem TabAt.put {C : Addr} {H0 H : Hp} {x : Addr} {E : Tb} {F : List Wd} {dx la ca fa : Addr} {kc : List (Key × V)} {r : Wd} {n : Nat} {v : V} {h : How} (T : TabAt C H0 H x E F dx la ca fa kc) (hv : HowAt H v h) :
    TabAt C H0 (L2.upd (L2.upd (L2.upd H la (.dK (putK (dE E) (.inr (S r)) (.int (n : Nat))))) ca (.dK (putK kc (.inr (S r)) v))) fa (.lst (F.map sv ++ [sv r]))) x (putT E r n h) (F ++ [r]) dx la ca fa (putK kc (.inr (S r)) v) := by
  obtain ⟨t1, t2, t3, t4, t5, t6, t7, t8, t9, t10, t11, t12, t13⟩ := T
  have xl : x ≠ la := fun z => by rw [z, t8] at t7; cases t7
  have xc : x ≠ ca := fun z => by rw [z, t9] at t7; cases t7
  have xf : x ≠ fa := fun z => by rw [z, t10] at t7; cases t7
  have fl : fa ≠ la := fun z => by rw [z, t8] at t10; cases t10
  have fc : fa ≠ ca := fun z => by rw [z, t9] at t10; cases t10
  have hw : ∀ {v' : V} {h' : How}, HowAt H v' h' → HowAt (L2.upd (L2.upd (L2.upd H la (.dK (putK (dE E) (.inr (S r)) (.int (n : Nat))))) ca (.dK (putK kc (.inr (S r)) v))) fa (.lst (F.map sv ++ [sv r]))) v' h' := fun k => by
    refine HowAt.upd (fun vs z => ?_) (HowAt.upd (fun vs z => ?_) (HowAt.upd (fun vs z => ?_) k))
    · rw [upd_ne fc, upd_ne fl, t10] at z; cases z
    · rw [upd_ne t6.symm, t9] at z; cases z
    · rw [t8] at z; cases z
  refine ⟨mutd (mutd (mutd t1 t3) t4) t5, t2, t3, t4, t5, t6, ?_, ?_, ?_, ?_, nodup_put t11, ?_, ?_⟩
  · rw [upd_ne xf, upd_ne xc, upd_ne xl]; exact t7
  · rw [upd_ne fl.symm, upd_ne t6, upd_same, putK_dE E r n h]
  · rw [upd_ne fc.symm, upd_same]
  · rw [upd_same, List.map_append]; rfl
  · have kp := keys_putK kc (.inr (S r)) v
    rw [t12] at kp
    rw [keys_put]
    by_cases a : r ∈ keysT E
    · rw [kp.1 (mem_kS.mpr a), if_pos a]
    · rw [kp.2 (fun z => a (mem_kS.mp z)), if_neg a, List.map_append]; rfl
  · intro r' p hp
    rw [look_put] at hp
    rw [valV_put]
    by_cases a : r' = r
    · rw [if_pos a] at hp
      rw [if_pos (inrS.mpr a)]
      obtain rfl := Option.some.inj hp
      exact ⟨v, rfl, hw hv⟩
    · rw [if_neg a] at hp
      rw [if_neg (fun z => a (inrS.mp z))]
      obtain ⟨v', h1, h2⟩ := t13 r' p hp
      exact ⟨v', h1, hw h2⟩
abbrev s_Table_offer : Stmt := inClass (top 16) 1
theorem sc_Table_offer : FnScope ["self", "rest", "length", "how"] ["self", "rest", "length", "how"] (defScope s_Table_offer) := ⟨rfl, rfl, rfl, by decide +kernel, rfl, by decide +kernel, by decide +kernel⟩
def sp_Table_offer (C : Addr) : Sp := fun vs H Q _ => ∃ (x : Addr) (r : Wd) (n : Nat) (v : V), vs = [.ref x, sv r, .int n, v] ∧ ∃ H0 E F dx la ca fa kc h, TabAt C H0 H x E F dx la ca fa kc ∧ HowAt H v h ∧ E.length ≤ 10000 ∧ F.length ≤ 10000000 ∧
  ∀ H' kc', TabAt C H0 H' x (offerT E F r n h).1 (offerT E F r n h).2 dx la ca fa kc' → Q .non H'
theorem ok_Table_offer (B : Bi mg) (T_Table : TableC K C) (D : DefM K C "offer" "Table.offer" s_Table_offer) : CalM P w K mg base CX0 C "offer" 1 ["self", "rest", "length", "how"] (sp_Table_offer C) := by
  have nd := sc_Table_offer.nd
  obtain ⟨T_cl, T_n1, T_n2, T_n3⟩ := T_Table
  refine D.cal sc_Table_offer (fun _ _ _ _ _ _ us hl => match us, hl with | [_, _, _, _], _ => rfl) (fun vs H Q E h => ?_) (fun f cdv A outer s H vs Q E hr h => ?_)
  · obtain ⟨_, _, _, _, rfl, _⟩ := h
    rfl
  · obtain ⟨x, r, n, v, rfl, H0, E, F, dx, la, ca, fa, kc, h, T, hv, hE, hF, q⟩ := h
    have T' := T
    obtain ⟨t1, t2, t3, t4, t5, t6, t7, t8, t9, t10, t11, t12, t13⟩ := T'
    unfold tabF at t7
    have xl : x ≠ la := fun z => by rw [z, t8] at t7; cases t7
    have xc : x ≠ ca := fun z => by rw [z, t9] at t7; cases t7
    have xf : x ≠ fa := fun z => by rw [z, t10] at t7; cases t7
    have fl : fa ≠ la := fun z => by rw [z, t8] at t10; cases t10
    have fc : fa ≠ ca := fun z => by rw [z, t9] at t10; cases t10
    have cl : ca ≠ la := t6.symm
    have dl : (dE E).length < 100000 := by unfold dE; rw [List.length_map]; omega
    have kl : kc.length < 100000 := by
      have := congrArg List.length t12
      unfold keysT at this
      simp only [List.length_map] at this
      omega
    have ml : (F.map sv).length < 16000000 := by rw [List.length_map]; omega
    have no : offers E r n = false → Q .non H := fun e => q H kc (by unfold offerT; rw [if_neg (by rw [e]; decide)]; exact T)
    have yes : offers E r n = true → Q .non (L2.upd (L2.upd (L2.upd H la (.dK (putK (dE E) (.inr (S r)) (.int (n : Nat))))) ca (.dK (putK kc (.inr (S r)) v))) fa (.lst (F.map sv ++ [sv r]))) := fun e =>
      q _ (putK kc (.inr (S r)) v) (by unfold offerT; rw [if_pos e]; exact T.put hv)
    refine ⟨_, PSs.nox (pss_one (ps_if (PW.pt (pw_or (pt_cmp (pc_dniN (hu_of hr) (pv 1) (pe_fld (pv 0) rfl))) (pw_or1 (pt_cmpR op_lt (pv 2) (pe_dgetN (hu_of hr) (pe_fld (pv 0) rfl) (pv 1) (fun _ _ => rfl)) (nomark _)))))
        (pss_cons (ps_dputN (hu_of hr) (pe_fld (pv 0) rfl) (pv 1) (pv 2) rfl)
        (pss_cons (ps_dputN (hu_of hr) (pe_fld (pv 0) rfl) (pv 1) (pv 3) rfl)
        (pss_one (ps_expr (pe_bm PySem.F.plainAttrs_list PySem.F.slot_list_append PySem.F.type_list_append mt_app (pe_fld (pv 0) rfl) (pa_cons (pv 1) pa_nil))))))
        pss_nil)), ?_⟩
    try dsimp only [cxOf, Cx.nox, Cx.wish]
    fail "gi"
    rw [valV_dE]
    cases lk : look E r with
    | none =>
      fail "gi"
      exact yes (by unfold offers; rw [lk])
    | some p =>
      have lv : valV (dE E) (.inr (S r)) = some (.int (p.1 : Nat)) := by rw [valV_dE, lk]; rfl
      fail "gi"
      refine itd (fun e => ?_) fun e => ?_
      · fail "gi"
        exact yes (by unfold offers; rw [lk]; exact decide_eq_true (by omega))
      · fail "gi"
        exact no (by unfold offers; rw [lk]; exact decide_eq_false (by omega))

/-! ### what is derived, and what a table knows of it -/
theorem left_eq {a b r : Wd} : left a b = some r ↔ a = b ++ r := by
  unfold left
  constructor
  · intro h
    split at h
    · rename_i e
      obtain rfl := Option.some.inj h
      obtain ⟨t, rfl⟩ := List.isPrefixOf_iff_prefix.mp e
      rw [List.drop_left]
    · cases h
  · rintro rfl
    rw [if_pos (List.isPrefixOf_iff_prefix.mpr ⟨r, rfl⟩), List.drop_left]
theorem left_none {a b : Wd} : left a b = none ↔ ¬ ∃ r, a = b ++ r := by
  constructor
  · rintro h ⟨r, e⟩
    rw [left_eq.mpr e] at h; cases h
  · intro h
    cases e : left a b with
    | none => rfl
    | some r => exact absurd ⟨r, left_eq.mp e⟩ h
theorem step_eq {r w s : Wd} {k : Bool} : step r w = some (s, k) ↔ (k = false ∧ r = w ++ s) ∨ (k = true ∧ w = r ++ s ∧ s ≠ []) := by
  unfold step
  constructor
  · intro h
    cases e : left r w with
    | some x =>
      rw [e] at h
      obtain ⟨rfl, rfl⟩ := Prod.mk.inj (Option.some.inj h)
      exact .inl ⟨rfl, left_eq.mp e⟩
    | none =>
      rw [e] at h
      cases e2 : left w r with
      | none => rw [e2] at h; cases h
      | some x =>
        rw [e2] at h
        obtain ⟨rfl, rfl⟩ := Prod.mk.inj (Option.some.inj h)
        have e3 := left_eq.mp e2
        refine .inr ⟨rfl, e3, fun z => left_none.mp e ⟨[], ?_⟩⟩
        rw [e3, z, List.append_nil, List.append_nil]
  · rintro (⟨rfl, e⟩ | ⟨rfl, e, n⟩)
    · rw [left_eq.mpr e]
    · have : left r w = none := left_none.mpr fun ⟨x, z⟩ => n (by
        rw [z] at e
        have := congrArg List.length e
        simp only [List.length_append] at this
        exact List.eq_nil_of_length_eq_zero (by omega))
      rw [this, left_eq.mpr e]
inductive Der (ws : List Wd) : Wd → Nat → Prop
  | beg {w o r : Wd} : w ∈ ws → o ∈ ws → w ≠ o → left w o = some r → Der ws r w.length
  | stp {r w s : Wd} {n : Nat} {k : Bool} : Der ws r n → w ∈ ws → step r w = some (s, k) → Der ws s (far n s k)
theorem Der.mono {ws zs : List Wd} (h : ∀ w ∈ ws, w ∈ zs) {r : Wd} {n : Nat} (d : Der ws r n) : Der zs r n := by
  induction d with
  | beg a b c e => exact .beg (h _ a) (h _ b) c e
  | stp _ b e ih => exact .stp ih (h _ b) e
def sufs (ws : List Wd) : List Wd := ws.flatMap fun w => (List.range (w.length + 1)).map fun i => w.drop i
theorem mem_sufs {ws : List Wd} {r : Wd} : r ∈ sufs ws ↔ ∃ w ∈ ws, ∃ t, w = t ++ r := by
  unfold sufs
  rw [List.mem_flatMap]
  constructor
  · rintro ⟨w, hw, h⟩
    obtain ⟨i, _, rfl⟩ := List.mem_map.mp h
    exact ⟨w, hw, w.take i, (List.take_append_drop i w).symm⟩
  · rintro ⟨w, hw, t, rfl⟩
    refine ⟨_, hw, List.mem_map.mpr ⟨t.length, List.mem_range.mpr ?_, List.drop_left⟩⟩
    rw [List.length_append]; omega
theorem sufs_len : ∀ {ws : List Wd}, (∀ w ∈ ws, w.length ≤ 10) → (sufs ws).length ≤ 11 * ws.length
  | [], _ => Nat.le_refl _
  | w :: ws, h => by
    have := sufs_len fun x hx => h x (List.mem_cons_of_mem _ hx)
    have hw := h w List.mem_cons_self
    show (((List.range (w.length + 1)).map fun i => w.drop i) ++ sufs ws).length ≤ _
    rw [List.length_append, List.length_map, List.length_range, List.length_cons]
    omega
theorem Code.ten {ws : List Wd} (c : Code ws) {w : Wd} (h : w ∈ ws) : w.length ≤ 10 := (c.wd w h).2.1
theorem Code.sufs {ws : List Wd} (c : Code ws) : (sufs ws).length ≤ 132 := by
  have := sufs_len (ws := ws) fun w h => c.ten h
  have := c.le
  omega
theorem Code.suf {ws : List Wd} (c : Code ws) {r : Wd} (h : r ∈ One.sufs ws) : r.length ≤ 10 := by
  obtain ⟨w, hw, t, rfl⟩ := mem_sufs.mp h
  have := c.ten hw
  rw [List.length_append] at this
  omega
theorem Der.suf {ws : List Wd} {r : Wd} {n : Nat} (d : Der ws r n) : r ∈ sufs ws := by
  induction d with
  | beg a b c e => exact mem_sufs.mpr ⟨_, a, _, left_eq.mp e⟩
  | @stp r w s n k _ b e ih =>
    rcases step_eq.mp e with ⟨_, z⟩ | ⟨_, z, _⟩
    · obtain ⟨v, hv, t, rfl⟩ := mem_sufs.mp ih
      exact mem_sufs.mpr ⟨_, hv, t ++ w, by rw [z, List.append_assoc]⟩
    · exact mem_sufs.mpr ⟨_, b, _, z⟩
theorem nd_len : ∀ {xs ys : List Wd}, xs.Nodup → (∀ x ∈ xs, x ∈ ys) → xs.length ≤ ys.length
  | [], _, _, _ => Nat.zero_le _
  | x :: xs, ys, nd, h => by
    have nd' := List.nodup_cons.mp nd
    have hx := h x List.mem_cons_self
    have := nd_len (ys := ys.erase x) nd'.2 fun y hy => (List.mem_erase_of_ne (fun z => nd'.1 (by rw [← z]; exact hy))).mpr (h y (List.mem_cons_of_mem _ hy))
    rw [List.length_erase_of_mem hx] at this
    have := List.length_pos_of_mem hx
    rw [List.length_cons]
    omega
def val (E : Tb) (s : Wd) : Nat := match look E s with
  | some p => p.1
  | none => 1331
def pot (ws : List Wd) (E : Tb) : Nat := ((sufs ws).map (val E)).sum
theorem sum_le {f g : Wd → Nat} : ∀ {l : List Wd}, (∀ s ∈ l, f s ≤ g s) → (l.map f).sum ≤ (l.map g).sum
  | [], _ => Nat.le_refl _
  | x :: l, h => by
    have := sum_le fun s hs => h s (List.mem_cons_of_mem _ hs)
    have := h x List.mem_cons_self
    simp only [List.map_cons, List.sum_cons]
    omega
theorem sum_lt {f g : Wd → Nat} : ∀ {l : List Wd}, (∀ s ∈ l, f s ≤ g s) → ∀ {r}, r ∈ l → f r < g r → (l.map f).sum + 1 ≤ (l.map g).sum
  | [], _, _, h, _ => nomatch h
  | x :: l, h, r, hr, k => by
    have h1 := h x List.mem_cons_self
    have h2 := fun s hs => h s (List.mem_cons_of_mem x hs)
    simp only [List.map_cons, List.sum_cons]
    rcases List.mem_cons.mp hr with rfl | hr
    · have := sum_le h2
      omega
    · have := sum_lt h2 hr k
      omega
def Grd (ws : List Wd) (E : Tb) (n : Nat) : How → Wd → Prop
  | .beg w o, r => w ∈ ws ∧ o ∈ ws ∧ w ≠ o ∧ left w o = some r ∧ n = w.length
  | .stp q w, r => w ∈ ws ∧ ∃ k p, step q w = some (r, k) ∧ look E q = some p ∧ far p.1 r k ≤ n
def Mono (E E' : Tb) : Prop := ∀ r p, look E r = some p → ∃ p', look E' r = some p' ∧ p'.1 ≤ p.1
theorem Mono.refl (E : Tb) : Mono E E := fun _ p h => ⟨p, h, Nat.le_refl _⟩
theorem Mono.trans {E E' E'' : Tb} (a : Mono E E') (b : Mono E' E'') : Mono E E'' := fun r p h => by
  obtain ⟨p', h', l⟩ := a r p h
  obtain ⟨p'', h'', l'⟩ := b r p' h'
  exact ⟨p'', h'', by omega⟩
theorem far_le {n m : Nat} {s : Wd} {k : Bool} (h : n ≤ m) : far n s k ≤ far m s k := by
  unfold far
  split <;> omega
theorem Grd.mono {ws : List Wd} {E E' : Tb} (m : Mono E E') {n : Nat} {h : How} {r : Wd} (g : Grd ws E n h r) : Grd ws E' n h r := by
  cases h with
  | beg w o => exact g
  | stp q w =>
    obtain ⟨a, k, p, b, c, d⟩ := g
    obtain ⟨p', c', l⟩ := m q p c
    exact ⟨a, k, p', b, c', Nat.le_trans (far_le l) d⟩
theorem Grd.sub {ws zs : List Wd} (hs : ∀ w ∈ ws, w ∈ zs) {E : Tb} {n : Nat} {h : How} {r : Wd} (g : Grd ws E n h r) : Grd zs E n h r := by
  cases h with
  | beg w o => exact ⟨hs _ g.1, hs _ g.2.1, g.2.2⟩
  | stp q w => exact ⟨hs _ g.1, g.2⟩
structure Ext (E : Tb) (F : List Wd) (E' : Tb) (F' : List Wd) : Prop where
  mono : Mono E E'
  ex : ∃ G, F' = F ++ G ∧ ∀ r p, look E' r = some p → look E r = some p ∨ r ∈ G
theorem Ext.refl (E : Tb) (F : List Wd) : Ext E F E F := ⟨Mono.refl E, [], (List.append_nil F).symm, fun _ _ h => .inl h⟩
structure Tbl (ws : List Wd) (E : Tb) (F : List Wd) : Prop where
  nd : (keysT E).Nodup
  der : ∀ r p, look E r = some p → Der ws r p.1
  grd : ∀ r p, look E r = some p → Grd ws E p.1 p.2 r
  low : ∀ r p, look E r = some p → p.1 ≤ 10 * E.length
  pot : pot ws E + F.length ≤ 175692
  fr : ∀ r ∈ F, (look E r).isSome = true
theorem keys_len (E : Tb) : (keysT E).length = E.length := List.length_map _
theorem Tbl.len {ws : List Wd} {E : Tb} {F : List Wd} (T : Tbl ws E F) (c : Code ws) : E.length ≤ 132 := by
  have := nd_len (ys := sufs ws) T.nd fun x hx => by
    obtain ⟨p, hp⟩ := Option.isSome_iff_exists.mp (key_look.mp hx)
    exact (T.der x p hp).suf
  have h2 := c.sufs
  rw [keys_len] at this
  omega
theorem Tbl.flen {ws : List Wd} {E : Tb} {F : List Wd} (T : Tbl ws E F) : F.length ≤ 175692 := by
  have := T.pot
  omega
theorem Tbl.key {ws : List Wd} {E : Tb} {F : List Wd} (T : Tbl ws E F) (c : Code ws) {r : Wd} {p : Nat × How} (h : look E r = some p) : r.length ≤ 10 := c.suf (T.der r p h).suf
theorem putT_len (E : Tb) (r : Wd) (n : Nat) (h : How) : (putT E r n h).length = if r ∈ keysT E then E.length else E.length + 1 := by
  rw [← keys_len, keys_put]
  split
  · exact keys_len E
  · rw [List.length_append, keys_len]; rfl
theorem Tbl.offer {ws : List Wd} {E : Tb} {F : List Wd} (T : Tbl ws E F) (c : Code ws) {r : Wd} {n : Nat} {h : How} (d : Der ws r n) (g : Grd ws E n h r) (hn : n ≤ 10 * E.length + 10) :
    Tbl ws (offerT E F r n h).1 (offerT E F r n h).2 ∧ Ext E F (offerT E F r n h).1 (offerT E F r n h).2 ∧ ∃ p, look (offerT E F r n h).1 r = some p ∧ p.1 ≤ n := by
  by_cases o : offers E r n = true
  · rw [show offerT E F r n h = (putT E r n h, F ++ [r]) by unfold offerT; rw [if_pos o]]
    have lower : ∀ p, look E r = some p → n < p.1 := fun p e => by
      unfold offers at o
      rw [e] at o
      exact of_decide_eq_true o
    have mono : Mono E (putT E r n h) := fun r' p e => by
      rw [look_put]
      by_cases a : r' = r
      · rw [if_pos a]
        rw [a] at e
        exact ⟨_, rfl, Nat.le_of_lt (lower p e)⟩
      · rw [if_neg a]
        exact ⟨p, e, Nat.le_refl _⟩
    have nd := nodup_put (r := r) (n := n) (h := h) T.nd
    have der : ∀ r' p, look (putT E r n h) r' = some p → Der ws r' p.1 := fun r' p e => by
      rw [look_put] at e
      by_cases a : r' = r
      · rw [if_pos a] at e
        obtain rfl := Option.some.inj e
        rw [a]; exact d
      · rw [if_neg a] at e
        exact T.der r' p e
    have len : (putT E r n h).length ≤ 132 := by
      have := nd_len (ys := sufs ws) nd fun x hx => by
        obtain ⟨p, hp⟩ := Option.isSome_iff_exists.mp (key_look.mp hx)
        exact (der x p hp).suf
      have h2 := c.sufs
      rw [keys_len] at this
      omega
    have low : n ≤ 10 * (putT E r n h).length := by
      rw [putT_len]
      by_cases a : r ∈ keysT E
      · obtain ⟨p, hp⟩ := Option.isSome_iff_exists.mp (key_look.mp a)
        have := lower p hp
        have := T.low r p hp
        rw [if_pos a]; omega
      · rw [if_neg a]; omega
    have up : E.length ≤ (putT E r n h).length := by
      rw [putT_len]; split <;> omega
    have vr : val (putT E r n h) r = n := by
      unfold val
      rw [look_put, if_pos rfl]
    have vlt : val (putT E r n h) r < val E r := by
      rw [vr]
      unfold val
      cases e : look E r with
      | none => show n < 1331; omega
      | some p => exact lower p e
    have pt := sum_lt (f := val (putT E r n h)) (g := val E) (l := sufs ws) (fun s _ => by
      by_cases a : s = r
      · rw [a]; exact Nat.le_of_lt vlt
      · unfold val
        rw [look_put, if_neg a]
        exact Nat.le_refl _) d.suf vlt
    refine ⟨⟨nd, der, fun r' p e => ?_, fun r' p e => ?_, ?_, fun x hx => ?_⟩, ⟨mono, [r], rfl, fun r' p e => ?_⟩, (n, h), by rw [look_put, if_pos rfl], Nat.le_refl _⟩
    · rw [look_put] at e
      by_cases a : r' = r
      · rw [if_pos a] at e
        obtain rfl := Option.some.inj e
        rw [a]; exact g.mono mono
      · rw [if_neg a] at e
        exact (T.grd r' p e).mono mono
    · rw [look_put] at e
      by_cases a : r' = r
      · rw [if_pos a] at e
        obtain rfl := Option.some.inj e
        exact low
      · rw [if_neg a] at e
        have := T.low r' p e
        show p.1 ≤ 10 * (putT E r n h).length
        omega
    · have h0 := T.pot
      show One.pot ws (putT E r n h) + (F ++ [r]).length ≤ _
      unfold One.pot at h0 ⊢
      rw [List.length_append, List.length_singleton]
      omega
    · rcases List.mem_append.mp hx with a | a
      · obtain ⟨p, hp⟩ := Option.isSome_iff_exists.mp (T.fr x a)
        obtain ⟨p', hp', _⟩ := mono x p hp
        show (look (putT E r n h) x).isSome = true
        rw [hp']; rfl
      · rw [List.mem_singleton.mp a]
        show (look (putT E r n h) r).isSome = true
        rw [look_put, if_pos rfl]; rfl
    · rw [look_put] at e
      by_cases a : r' = r
      · exact .inr (List.mem_singleton.mpr a)
      · rw [if_neg a] at e
        exact .inl e
  · rw [show offerT E F r n h = (E, F) by unfold offerT; rw [if_neg o]]
    refine ⟨T, Ext.refl E F, ?_⟩
    unfold offers at o
    cases e : look E r with
    | none => rw [e] at o; exact absurd rfl o
    | some p =>
      rw [e] at o
      exact ⟨p, rfl, by have := of_decide_eq_false (Bool.eq_false_iff.mpr o); omega⟩
def Cl (E : Tb) (r w : Wd) : Prop := ∀ p s k, look E r = some p → step r w = some (s, k) → ∃ q, look E s = some q ∧ q.1 ≤ far p.1 s k
def Bg (E : Tb) (w o : Wd) : Prop := ∀ r, w ≠ o → left w o = some r → ∃ q, look E r = some q ∧ q.1 ≤ w.length
theorem Bg.mono {E E' : Tb} (m : Mono E E') {w o : Wd} (b : Bg E w o) : Bg E' w o := fun r h e => by
  obtain ⟨q, h1, l⟩ := b r h e
  obtain ⟨q', h2, l'⟩ := m _ q h1
  exact ⟨q', h2, by omega⟩
theorem Tbl.begin {ws : List Wd} {E : Tb} {F : List Wd} (T : Tbl ws E F) (c : Code ws) {w o : Wd} (hw : w ∈ ws) (ho : o ∈ ws) :
    Tbl ws (beginT E F w o).1 (beginT E F w o).2 ∧ Ext E F (beginT E F w o).1 (beginT E F w o).2 ∧ Bg (beginT E F w o).1 w o := by
  unfold beginT
  cases e : left w o with
  | none => exact ⟨T, Ext.refl E F, fun r _ z => by rw [e] at z; cases z⟩
  | some r =>
    dsimp only
    by_cases n : w = o
    · rw [if_pos n]
      exact ⟨T, Ext.refl E F, fun r a _ => absurd n a⟩
    · rw [if_neg n]
      have := c.ten hw
      obtain ⟨a1, a2, p, a3, a4⟩ := T.offer c (h := .beg w o) (.beg hw ho n e) ⟨hw, ho, n, e, rfl⟩ (by omega)
      exact ⟨a1, a2, fun r' _ z => by rw [e] at z; obtain rfl := Option.some.inj z; exact ⟨p, a3, a4⟩⟩
theorem Tbl.go {ws : List Wd} {E : Tb} {F : List Wd} (T : Tbl ws E F) (c : Code ws) {r w : Wd} {p : Nat × How} (hp : look E r = some p) (hw : w ∈ ws) :
    Tbl ws (goT E F r w).1 (goT E F r w).2 ∧ Ext E F (goT E F r w).1 (goT E F r w).2 ∧ ∀ s k, step r w = some (s, k) → ∃ q, look (goT E F r w).1 s = some q ∧ q.1 ≤ far p.1 s k := by
  unfold goT
  rw [hp]
  cases e : step r w with
  | none => exact ⟨T, Ext.refl E F, fun s k z => nomatch z⟩
  | some x =>
    obtain ⟨s, k⟩ := x
    have d : Der ws s (far p.1 s k) := .stp (T.der r p hp) hw e
    have ls := c.suf d.suf
    have lw := T.low r p hp
    obtain ⟨a1, a2, q, a3, a4⟩ := T.offer c (h := .stp r w) d ⟨hw, k, p, e, hp, Nat.le_refl _⟩ (by unfold far; split <;> omega)
    exact ⟨a1, a2, fun s' k' z => by obtain ⟨rfl, rfl⟩ := Prod.mk.inj (Option.some.inj z); exact ⟨q, a3, a4⟩⟩
def Wait (ws : List Wd) (E : Tb) (R : List Wd) : Prop := ∀ r p, look E r = some p → (∀ w ∈ ws, Cl E r w) ∨ r ∈ R
def Wait1 (ws : List Wd) (E : Tb) (r0 : Wd) (pre R : List Wd) : Prop := ∀ r p, look E r = some p → (∀ w ∈ (if r = r0 then pre else ws), Cl E r w) ∨ r ∈ R
theorem Wait.start {ws : List Wd} {E : Tb} {r0 : Wd} {R : List Wd} (h : Wait ws E (r0 :: R)) : Wait1 ws E r0 [] R := fun r p e => by
  by_cases a : r = r0
  · rw [if_pos a]; exact .inl fun _ h => nomatch h
  · rw [if_neg a]
    rcases h r p e with b | b
    · exact .inl b
    · rcases List.mem_cons.mp b with b | b
      · exact absurd b a
      · exact .inr b
theorem Wait1.end {ws : List Wd} {E : Tb} {r0 : Wd} {R : List Wd} (h : Wait1 ws E r0 ws R) : Wait ws E R := fun r p e => by
  have := h r p e
  rwa [ite_self] at this
theorem Wait1.step {ws pre R F F' : List Wd} {E E' : Tb} {r0 w : Wd} (h : Wait1 ws E r0 pre R) (x : Ext E F E' F') (n : ∀ p, look E r0 = some p → ∀ s k, step r0 w = some (s, k) → ∃ q, look E' s = some q ∧ q.1 ≤ far p.1 s k) :
    ∃ G, F' = F ++ G ∧ Wait1 ws E' r0 (pre ++ [w]) (R ++ G) := by
  obtain ⟨m, G, e1, e2⟩ := x
  refine ⟨G, e1, fun r p e => ?_⟩
  rcases e2 r p e with a | a
  · rcases h r p a with b | b
    · refine .inl fun v hv p' s k e' st => ?_
      have pe : p' = p := Option.some.inj (e'.symm.trans e)
      rw [pe]
      have old : Cl E r v → ∃ q, look E' s = some q ∧ q.1 ≤ far p.1 s k := fun cl => by
        obtain ⟨q, h1, l⟩ := cl p s k a st
        obtain ⟨q', h2, l'⟩ := m s q h1
        exact ⟨q', h2, by omega⟩
      by_cases z : r = r0
      · rw [if_pos z] at hv b
        rcases List.mem_append.mp hv with hv | hv
        · exact old (b v hv)
        · obtain rfl := List.mem_singleton.mp hv
          rw [z] at a st
          exact n p a s k st
      · rw [if_neg z] at hv b
        exact old (b v hv)
    · exact .inr (List.mem_append_left _ b)
  · exact .inr (List.mem_append_right _ a)
structure Full (ws : List Wd) (E : Tb) : Prop where
  tb : Tbl ws E []
  cl : ∀ r p, look E r = some p → ∀ w ∈ ws, Cl E r w
  bg : ∀ w ∈ ws, ∀ o ∈ ws, Bg E w o
theorem pot_nil {ws : List Wd} (c : Code ws) : pot ws [] ≤ 175692 := by
  have h : ∀ l : List Wd, (l.map (val [])).sum = 1331 * l.length := by
    intro l
    induction l with
    | nil => rfl
    | cons x l ih =>
      rw [List.map_cons, List.sum_cons, ih, List.length_cons]
      show 1331 + _ = _
      omega
  unfold pot
  rw [h]
  have := c.sufs
  omega
theorem Tbl.nil {ws : List Wd} (c : Code ws) : Tbl ws [] [] where
  nd := List.nodup_nil
  der := fun _ _ h => nomatch h
  grd := fun _ _ h => nomatch h
  low := fun _ _ h => nomatch h
  pot := pot_nil c
  fr := fun _ h => nomatch h
/-- what is known of a whole table, by the words as a set -/
structure Lst (ws : List Wd) (E : Tb) : Prop where
  nd : (keysT E).Nodup
  len : E.length ≤ 132
  der : ∀ r p, look E r = some p → Der ws r p.1
  grd : ∀ r p, look E r = some p → Grd ws E p.1 p.2 r
  low : ∀ r p, look E r = some p → p.1 ≤ 1320
  key : ∀ r p, look E r = some p → r.length ≤ 10
  cl : ∀ r p, look E r = some p → ∀ w ∈ ws, Cl E r w
  bg : ∀ w ∈ ws, ∀ o ∈ ws, Bg E w o
theorem Full.lst {ws : List Wd} {E : Tb} (f : Full ws E) (c : Code ws) : Lst ws E := ⟨f.tb.nd, f.tb.len c, f.tb.der, f.tb.grd, fun r p h => by
  have := f.tb.low r p h
  have := f.tb.len c
  omega, fun r p h => f.tb.key c h, f.cl, f.bg⟩
theorem Lst.perm {ws zs : List Wd} {E : Tb} (f : Lst ws E) (h : ∀ w, w ∈ ws ↔ w ∈ zs) : Lst zs E :=
  ⟨f.nd, f.len, fun r p e => (f.der r p e).mono fun w => (h w).mp, fun r p e => (f.grd r p e).sub fun w => (h w).mp, f.low, f.key, fun r p e w hw => f.cl r p e w ((h w).mpr hw), fun w hw o ho => f.bg w ((h w).mpr hw) o ((h o).mpr ho)⟩
theorem Lst.least {ws : List Wd} {E : Tb} (f : Lst ws E) {r : Wd} {n : Nat} (d : Der ws r n) : ∃ p, look E r = some p ∧ p.1 ≤ n := by
  induction d with
  | beg a b c e => exact f.bg _ a _ b _ c e
  | stp _ b e ih =>
    obtain ⟨p, hp, l⟩ := ih
    obtain ⟨q, hq, l'⟩ := f.cl _ p hp _ b p _ _ hp e
    exact ⟨q, hq, Nat.le_trans l' (far_le l)⟩
theorem Lst.uniq {ws : List Wd} {E E' : Tb} (f : Lst ws E) (g : Lst ws E') (r : Wd) : (look E r).map (·.1) = (look E' r).map (·.1) := by
  cases e : look E r with
  | some p =>
    obtain ⟨q, e2, l⟩ := g.least (f.der r p e)
    obtain ⟨p', e3, l'⟩ := f.least (g.der r q e2)
    obtain rfl := Option.some.inj (e.symm.trans e3)
    rw [e2]
    exact congrArg some (by show p.1 = q.1; omega)
  | none =>
    cases e2 : look E' r with
    | none => rfl
    | some q =>
      obtain ⟨p, e3, _⟩ := f.least (g.der r q e2)
      rw [e] at e3; cases e3
/-- each number is just that of one of these -/
theorem Lst.from {ws : List Wd} {E : Tb} (f : Lst ws E) {r : Wd} {p : Nat × How} (h : look E r = some p) :
    (∃ w ∈ ws, ∃ o ∈ ws, w ≠ o ∧ left w o = some r ∧ p.1 = w.length ∧ p.2 = .beg w o) ∨ ∃ q p' w k, look E q = some p' ∧ w ∈ ws ∧ step q w = some (r, k) ∧ p.1 = far p'.1 r k ∧ p.2 = .stp q w := by
  have g := f.grd r p h
  obtain ⟨n, hw⟩ := p
  cases hw with
  | beg w o => exact .inl ⟨w, g.1, o, g.2.1, g.2.2.1, g.2.2.2.1, g.2.2.2.2, rfl⟩
  | stp q w =>
    obtain ⟨a, k, p', b, c, d⟩ := g
    obtain ⟨p2, e2, l⟩ := f.cl q p' c w a p' r k c b
    obtain rfl := Option.some.inj (h.symm.trans e2)
    exact .inr ⟨q, p', w, k, c, a, b, Nat.le_antisymm l d, rfl⟩

theorem TabAt.same {C : Addr} {H0 H H' : Hp} {x : Addr} {E : Tb} {F : List Wd} {dx la ca fa : Addr} {kc : List (Key × V)} (T : TabAt C H0 H x E F dx la ca fa kc) (s : Same H H') : TabAt C H0 H' x E F dx la ca fa kc := by
  obtain ⟨t1, t2, t3, t4, t5, t6, t7, t8, t9, t10, t11, t12, t13⟩ := T
  exact ⟨t1.trans s, t2, t3, t4, t5, t6, s _ _ t7, s _ _ t8, s _ _ t9, s _ _ t10, t11, t12, fun r p hp => let ⟨v, h1, h2⟩ := t13 r p hp; ⟨v, h1, h2.same s⟩⟩
abbrev s_Table_begin : Stmt := inClass (top 16) 2
theorem sc_Table_begin : FnScope ["self", "word", "other", "rest"] ["self", "word", "other"] (defScope s_Table_begin) := ⟨rfl, rfl, rfl, by decide +kernel, rfl, by decide +kernel, by decide +kernel⟩
def sp_Table_begin (C : Addr) : Sp := fun vs H Q _ => ∃ (x : Addr) (w o : Wd), vs = [.ref x, sv w, sv o] ∧ ∃ H0 E F dx la ca fa kc, TabAt C H0 H x E F dx la ca fa kc ∧ w.length ≤ 10 ∧ o.length ≤ 10 ∧ E.length ≤ 10000 ∧ F.length ≤ 10000000 ∧
  ∀ H' kc', TabAt C H0 H' x (beginT E F w o).1 (beginT E F w o).2 dx la ca fa kc' → Q .non H'
theorem ok_Table_begin (B : Bi mg) (T_Table : TableC K C) (D : DefM K C "begin" "Table.begin" s_Table_begin) (c_left_of : Cal P w K mg base CX0 "left_of" 1 ["text", "other"] sp_left_of) (c_Table_offer : CalM P w K mg base CX0 C "offer" 1 ["self", "rest", "length", "how"] (sp_Table_offer C)) : CalM P w K mg base CX0 C "begin" 2 ["self", "word", "other"] (sp_Table_begin C) := by
  have nd := sc_Table_begin.nd
  obtain ⟨T_cl, T_n1, T_n2, T_n3⟩ := T_Table
  refine D.cal sc_Table_begin (fun _ _ _ _ _ _ us hl => match us, hl with | [_, _, _], _ => rfl) (fun vs H Q E h => ?_) (fun f cdv A outer s H vs Q E hr h => ?_)
  · obtain ⟨_, _, _, rfl, _⟩ := h
    rfl
  · obtain ⟨x, w, o, rfl, H0, E, F, dx, la, ca, fa, kc, T, hw, ho, hE, hF, q⟩ := h
    refine ⟨_, PSs.nox (pss_cons (ps_set (i := 3) nd rfl (.inl rfl) (pe_cal c_left_of hr (pa_cons (pv 1) (pa_cons (pv 2) pa_nil))))
      (pss_one (ps_if (PW.pt (pw_and (pt_cmpR op_notN (pv 3) pe_non (nomark _)) (pw_and1 (pt_cmpR op_new (pv 1) (pv 2) (nomark _)))))
        (pss_one (ps_expr (pe_calM c_Table_offer T_cl hr (pv 0) (pa_cons (pv 3) (pa_cons (pe_callB call_lenw (by rfl) B.len PySem.boot_len (pa_cons (pv 1) pa_nil)) (pa_cons (pe_tup (pa_cons pe_non (pa_cons (pe_tup (pa_cons (pv 1) (pa_cons (pv 2) pa_nil))) pa_nil))) pa_nil))))))
        pss_nil))), ?_⟩
    try dsimp only [cxOf, Cx.nox, Cx.wish]
    have hx := T.hx
    unfold tabF at hx
    have wl : w.length ≤ 100000 := by omega
    have ol : o.length ≤ 100000 := by omega
    cases e : left w o with
    | none =>
      rw [show beginT E F w o = (E, F) by unfold beginT; rw [e]] at q
      fail "gi"
      rw [e]
      fail "gi"
      exact q H kc T
    | some r =>
      fail "gi"
      rw [e]
      fail "gi"
      refine itn (fun e2 => ?_) fun e2 => ?_
      · rw [show beginT E F w o = offerT E F r w.length (.beg w o) by unfold beginT; rw [e]; exact if_neg e2] at q
        fail "gi"
        exact ⟨H0, E, F, dx, la, ca, fa, kc, .beg w o, T.same (by fail "same"), ⟨_, _, rfl, by fail "look", by fail "look"⟩, hE, hF, q⟩
      · rw [show beginT E F w o = (E, F) by unfold beginT; rw [e]; exact if_pos e2] at q
        fail "gi"
        exact q H kc T
abbrev s_Table_go_on : Stmt := inClass (top 16) 3
theorem sc_Table_go_on : FnScope ["self", "rest", "word", "step", "longer"] ["self", "rest", "word"] (defScope s_Table_go_on) := ⟨rfl, rfl, rfl, by decide +kernel, rfl, by decide +kernel, by decide +kernel⟩
def sp_Table_go_on (C : Addr) : Sp := fun vs H Q _ => ∃ (x : Addr) (r w : Wd), vs = [.ref x, sv r, sv w] ∧ ∃ H0 E F dx la ca fa kc, TabAt C H0 H x E F dx la ca fa kc ∧ (look E r).isSome = true ∧ r.length ≤ 10 ∧ w.length ≤ 10 ∧ E.length ≤ 10000 ∧ F.length ≤ 10000000 ∧
  ∀ H' kc', TabAt C H0 H' x (goT E F r w).1 (goT E F r w).2 dx la ca fa kc' → Q .non H'
theorem ok_Table_go_on (B : Bi mg) (T_Table : TableC K C) (D : DefM K C "go_on" "Table.go_on" s_Table_go_on) (c_stepped : Cal P w K mg base CX0 "stepped" 2 ["rest", "word"] sp_stepped) (c_Table_offer : CalM P w K mg base CX0 C "offer" 1 ["self", "rest", "length", "how"] (sp_Table_offer C)) : CalM P w K mg base CX0 C "go_on" 3 ["self", "rest", "word"] (sp_Table_go_on C) := by
  have nd := sc_Table_go_on.nd
  obtain ⟨T_cl, T_n1, T_n2, T_n3⟩ := T_Table
  refine D.cal sc_Table_go_on (fun _ _ _ _ _ _ us hl => match us, hl with | [_, _, _], _ => rfl) (fun vs H Q E h => ?_) (fun f cdv A outer s H vs Q E hr h => ?_)
  · obtain ⟨_, _, _, rfl, _⟩ := h
    rfl
  · obtain ⟨x, r, w', rfl, H0, E, F, dx, la, ca, fa, kc, T, hk, hr1, hw, hE, hF, q⟩ := h
    refine ⟨_, PSs.nox (pss_cons (ps_set (i := 3) nd rfl (.inl rfl) (pe_cal c_stepped hr (pa_cons (pv 1) (pa_cons (pv 2) pa_nil))))
      (pss_one (ps_if (pt_cmpR op_notN (pv 3) pe_non (nomark _))
        (pss_cons (ps_set (i := 4) nd rfl (.inl rfl) (pe_dgetN (hu_of hr) (pe_fld (pv 0) rfl) (pv 1) (fun _ _ => rfl)))
        (pss_cons (ps_if (pt_val (pe_ix (r := rIxTn K) ix_t (pv 3) pe_int (fun _ _ => rfl)))
          (pss_one (ps_set (i := 4) nd rfl (.inl rfl) (pe_op op_add (pv 4) (pe_callB call_lenw (by rfl) B.len PySem.boot_len (pa_cons (pe_ix (r := rIxTn K) ix_t (pv 3) pe_int (fun _ _ => rfl)) pa_nil)))))
          pss_nil)
        (pss_one (ps_expr (pe_calM c_Table_offer T_cl hr (pv 0) (pa_cons (pe_ix (r := rIxTn K) ix_t (pv 3) pe_int (fun _ _ => rfl)) (pa_cons (pv 4) (pa_cons (pe_tup (pa_cons (pv 1) (pa_cons (pv 2) pa_nil))) pa_nil))))))))
        pss_nil))), ?_⟩
    try dsimp only [cxOf, Cx.nox, Cx.wish]
    obtain ⟨p, lk⟩ := Option.isSome_iff_exists.mp hk
    have lv : valV (dE E) (.inr (S r)) = some (.int (p.1 : Nat)) := by rw [valV_dE, lk]; rfl
    have hx := T.hx
    unfold tabF at hx
    have hl := T.hl
    have rl : r.length ≤ 100000 := by omega
    have ol : w'.length ≤ 100000 := by omega
    fail "gi"
    refine ⟨fun e => ?_, fun s k e => ?_⟩
    · rw [show goT E F r w' = (E, F) by unfold goT; rw [e]] at q
      fail "gi"
      exact q _ kc (T.same (by fail "same"))
    · rw [show goT E F r w' = offerT E F s (far p.1 s k) (.stp r w') by unfold goT; rw [e, lk]] at q
      have sl : s.length ≤ 100000 := by
        have := step_len e
        omega
      fail "gi"
      cases k with
      | true =>
        fail "gi"
        exact ⟨H0, E, F, dx, la, ca, fa, kc, .stp r w', T.same (by fail "same"), ⟨_, rfl, by fail "look"⟩, hE, hF, q⟩
      | false =>
        fail "gi"
        exact ⟨H0, E, F, dx, la, ca, fa, kc, .stp r w', T.same (by fail "same"), ⟨_, rfl, by fail "look"⟩, hE, hF, q⟩

theorem TabAt.fresh {C : Addr} {H0 H : Hp} {x : Addr} {E : Tb} {F : List Wd} {dx la ca fa : Addr} {kc : List (Key × V)} (T : TabAt C H0 H x E F dx la ca fa kc) {q : Addr} (hq : H q = none) :
    TabAt C H0 (L2.upd (L2.upd H q (.lst [])) x (.ins C dx (tabF la ca q))) x E [] dx la ca q kc := by
  obtain ⟨t1, t2, t3, t4, t5, t6, t7, t8, t9, t10, t11, t12, t13⟩ := T
  have xl : la ≠ x := fun z => by rw [← z, t8] at t7; cases t7
  have xc : ca ≠ x := fun z => by rw [← z, t9] at t7; cases t7
  have qx : q ≠ x := fun z => by rw [z, t7] at hq; cases hq
  have ql : la ≠ q := fun z => by rw [← z, t8] at hq; cases hq
  have qc : ca ≠ q := fun z => by rw [← z, t9] at hq; cases hq
  refine ⟨mutd (t1.trans (new hq)) t2, t2, t3, t4, t1.free hq, t6, upd_same, ?_, ?_, ?_, t11, t12, fun r p hp => ?_⟩
  · rw [upd_ne xl, upd_ne ql]; exact t8
  · rw [upd_ne xc, upd_ne qc]; exact t9
  · rw [upd_ne qx, upd_same]; rfl
  · obtain ⟨v, h1, h2⟩ := t13 r p hp
    refine ⟨v, h1, HowAt.upd (fun vs z => ?_) (h2.same (new hq))⟩
    rw [upd_ne qx.symm, t7] at z; cases z
theorem TabAt.nil {C : Addr} {H0 H : Hp} {x dx la ca fa : Addr} (s : Same H0 H) (x0 : H0 x = none) (la0 : H0 la = none) (ca0 : H0 ca = none) (fa0 : H0 fa = none) (ne : la ≠ ca) (hx : H x = some (.ins C dx (tabF la ca fa)))
    (hl : H la = some (.dK [])) (hc : H ca = some (.dK [])) (hf : H fa = some (.lst [])) : TabAt C H0 H x [] [] dx la ca fa [] := ⟨s, x0, la0, ca0, fa0, ne, hx, hl, hc, hf, List.nodup_nil, rfl, fun _ _ h => nomatch h⟩
abbrev s_Table___init__ : Stmt := inClass (top 16) 0
theorem sc_Table___init__ : FnScope ["self"] ["self"] (defScope s_Table___init__) := ⟨rfl, rfl, rfl, by decide +kernel, rfl, by decide +kernel, by decide +kernel⟩
def sp_Table___init__ (C : Addr) : Sp := fun vs H Q _ => ∃ x : Addr, vs = [.ref x] ∧ ∃ H0 dx, H0 x = none ∧ Same H0 H ∧ H x = some (.ins C dx []) ∧
  ∀ H' la ca fa, TabAt C H0 H' x [] [] dx la ca fa [] → Q .non H'
theorem ok_Table___init__ (B : Bi mg) (T_Table : TableC K C) (D : DefI K mg C "Table" "Table.__init__" s_Table___init__) : CalI P w K mg base CX0 C "Table" 1 ["self"] (sp_Table___init__ C) := by
  have nd := sc_Table___init__.nd
  obtain ⟨T_cl, T_n1, T_n2, T_n3⟩ := T_Table
  refine D.cal sc_Table___init__ (fun _ _ _ _ _ _ us hl => match us, hl with | [_], _ => rfl) (fun vs H Q E h => ?_) (fun f cdv A outer s H vs Q E hr h => ?_)
  · obtain ⟨_, rfl, _⟩ := h
    rfl
  · obtain ⟨x, rfl, H0, dx, x0, s0, hx, q⟩ := h
    refine ⟨_, PSs.nox (pss_cons (ps_fld (pv 0) pe_dnewK rfl)
      (pss_cons (ps_fld (pv 0) pe_dnewK rfl)
      (pss_one (ps_fld (pv 0) (pe_lst pa_nil) rfl)))), ?_⟩
    try dsimp only [cxOf, Cx.nox, Cx.wish]
    fail "gi"
    rename_i a1 h1 a2 h2 a3 h3
    have n1 : a1 ≠ x := fun z => by rw [z, hx] at h1; cases h1
    have n2 : a2 ≠ x := fun z => by rw [z, upd_same] at h2; cases h2
    have n3 : a3 ≠ x := fun z => by rw [z, upd_same] at h3; cases h3
    have n12 : a2 ≠ a1 := ne_free (u := .dK []) h2 (by fail "look")
    exact q _ a1 a2 a3 (TabAt.nil (by fail "same") x0 (by fail "fr") (by fail "fr") (by fail "fr") n12.symm upd_same (by fail "look") (by fail "look") (by fail "look"))
abbrev s_Table_spread : Stmt := inClass (top 16) 4
theorem sc_Table_spread : FnScope ["self", "words", "at", "word"] ["self", "words"] (defScope s_Table_spread) := ⟨rfl, rfl, rfl, by decide +kernel, rfl, by decide +kernel, by decide +kernel⟩
def sp_Table_spread (C : Addr) : Sp := fun vs H Q _ => ∃ (x p : Addr), vs = [.ref x, .ref p] ∧ ∃ ws, Code ws ∧ ∃ H0 E F dx la ca fa kc, TabAt C H0 H x E F dx la ca fa kc ∧ H0 p = some (.lst (ws.map sv)) ∧ Tbl ws E F ∧ Wait ws E F ∧ (∀ w ∈ ws, ∀ o ∈ ws, Bg E w o) ∧
  ∀ H' E' fa' kc', TabAt C H0 H' x E' [] dx la ca fa' kc' → Full ws E' → Mono E E' → Q .non H'
theorem ok_Table_spread (B : Bi mg) (T_Table : TableC K C) (D : DefM K C "spread" "Table.spread" s_Table_spread) (c_Table_go_on : CalM P w K mg base CX0 C "go_on" 3 ["self", "rest", "word"] (sp_Table_go_on C)) : CalM P w K mg base CX0 C "spread" 4 ["self", "words"] (sp_Table_spread C) := by
  have nd := sc_Table_spread.nd
  obtain ⟨T_cl, T_n1, T_n2, T_n3⟩ := T_Table
  refine D.cal sc_Table_spread (fun _ _ _ _ _ _ us hl => match us, hl with | [_, _], _ => rfl) (fun vs H Q E h => ?_) (fun f cdv A outer s H vs Q E hr h => ?_)
  · obtain ⟨_, _, rfl, _⟩ := h
    rfl
  · obtain ⟨x, p, rfl, ws, c, H0, E, F, dx, la, ca, fa, kc, T, hp, tb, wt, bg, q⟩ := h
    refine ⟨_, PSs.nox (pss_cons (ps_set (i := 2) nd rfl (.inl rfl) pe_int)
      (pss_cons (ps_while PassesOwn.never (pt_cmpR op_lt (pv 2) (pe_callB (r := rLenL K) call_lenl (by rfl) B.len PySem.boot_len (pa_cons (pe_fld (pv 0) rfl) pa_nil)) (nomark _))
        (pss_cons (ps_for PassesOwn.never rfl (pi_list (pv 1)) (pg_name (i := 3) nd rfl (.inl rfl))
          (pss_one (ps_expr (pe_calM c_Table_go_on T_cl hr (pv 0) (pa_cons (pe_ix (r := rIxLn K) ix_l (pe_fld (pv 0) rfl) (pv 2) (fun _ _ => rfl)) (pa_cons (pv 3) pa_nil))))))
        (pss_one (ps_set (i := 2) nd rfl (.inl rfl) (pe_op op_add (pv 2) pe_int)))))
      (pss_one (ps_fld (pv 0) (pe_lst pa_nil) rfl)))), ?_⟩
    try dsimp only [cxOf, Cx.nox, Cx.wish]
    fail "gi"
    refine ⟨fun m σ' H' => ∃ (k : Nat) (E1 : Tb) (F1 : List Wd) (kc1 : List (Key × V)) (y : Option V), σ' = [some (.ref x), some (.ref p), some (.int k), y] ∧ m = 200000 - k ∧ TabAt C H0 H' x E1 F1 dx la ca fa kc1 ∧ Tbl ws E1 F1 ∧ Wait ws E1 (F1.drop k) ∧ (∀ w ∈ ws, ∀ o ∈ ws, Bg E1 w o) ∧ Mono E E1 ∧ k ≤ F1.length,
      ⟨_, 0, E, F, kc, _, rfl, rfl, T, tb, wt, bg, Mono.refl E, Nat.zero_le _⟩, ?_⟩
    rintro m σ' H' ⟨k, E1, F1, kc1, y, rfl, rfl, T1, tb1, wt1, bg1, mo1, hk⟩
    have hx := T1.hx
    unfold tabF at hx
    have hf := T1.hf
    have fl := tb1.flen
    fail "gi"
    dsimp only
    refine itd (fun e => ?_) fun e => ?_
    · have hlt : k < F1.length := by rw [List.length_map] at e; omega
      obtain ⟨r0, hr0⟩ : ∃ r0, F1[k]? = some r0 := ⟨_, List.getElem?_eq_getElem hlt⟩
      have dr : F1.drop k = r0 :: F1.drop (k + 1) := by
        rw [List.drop_eq_getElem_cons hlt]
        rw [List.getElem?_eq_getElem hlt] at hr0
        rw [Option.some.inj hr0]
      rw [dr] at wt1
      have lr := tb1.fr r0 (List.mem_of_getElem? hr0)
      refine ⟨fun σ' H' => ∃ (E1 : Tb) (F1 : List Wd) (kc1 : List (Key × V)) (y : Option V), σ' = [some (.ref x), some (.ref p), some (.int (k + 1)), y] ∧ TabAt C H0 H' x E1 F1 dx la ca fa kc1 ∧ Tbl ws E1 F1 ∧ Wait ws E1 (F1.drop (k + 1)) ∧ (∀ w ∈ ws, ∀ o ∈ ws, Bg E1 w o) ∧ Mono E E1 ∧ k + 1 ≤ F1.length,
        ?_, ?_⟩
      · rintro σ' H' ⟨E2, F2, kc2, y, rfl, a1, a2, a3, a4, a5, a6⟩
        have := a2.flen
        exact ⟨_, by omega, k + 1, E2, F2, kc2, y, rfl, rfl, a1, a2, a3, a4, a5, a6⟩
      · have hp1 := T1.s _ _ hp
        fail "gi"
        refine for_wl (xs := ws) (j := 3) (fun pre σ' H' => ∃ (E2 : Tb) (F2 : List Wd) (kc2 : List (Key × V)) (y : Option V), σ' = [some (.ref x), some (.ref p), some (.int k), y] ∧ TabAt C H0 H' x E2 F2 dx la ca fa kc2 ∧ Tbl ws E2 F2 ∧ Wait1 ws E2 r0 pre (F2.drop (k + 1)) ∧ (∀ w ∈ ws, ∀ o ∈ ws, Bg E2 w o) ∧ Mono E E2 ∧ F2[k]? = some r0)
          ⟨E1, F1, kc1, y, rfl, T1, tb1, wt1.start, bg1, mo1, hr0⟩ ?_ ?_ ?_
        · rintro pre σ' H' ⟨E2, F2, kc2, y, rfl, a1, a2, a3, a4, a5, a6⟩
          exact SqL.of (a1.s _ _ hp)
        · rintro pre w' post σ' H' ex ⟨E2, F2, kc2, y, rfl, a1, a2, a3, a4, a5, a6⟩
          have hx := a1.hx
          unfold tabF at hx
          have hf := a1.hf
          have fl := a2.flen
          have lk : (F2.map sv)[k]? = some (sv r0) := by rw [List.getElem?_map, a6]; rfl
          have lk1 : k < F2.length := (List.getElem?_eq_some_iff.mp a6).1
          have hw : w' ∈ ws := by rw [ex]; exact List.mem_append_right _ List.mem_cons_self
          have lr := a2.fr r0 (List.mem_of_getElem? a6)
          obtain ⟨pr, hpr⟩ := Option.isSome_iff_exists.mp lr
          have := a2.key c hpr
          have := c.len hw
          have := a2.len c
          fail "gi"
          refine ⟨_, lk, ?_⟩
          fail "gi"
          have b := a2.flen
          refine ⟨H0, E2, F2, dx, la, ca, fa, kc2, a1, lr, by omega, by omega, by omega, by omega, fun H3 kc3 T3 => ?_⟩
          obtain ⟨g1, g2, g3⟩ := a2.go c hpr hw
          obtain ⟨G, g4, g5⟩ := a3.step (w := w') g2 fun p' hp' s1 k1 hs1 => by
            obtain rfl := Option.some.inj (hp'.symm.trans hpr)
            exact g3 s1 k1 hs1
          fail "gi"
          refine ⟨_, _, kc3, _, rfl, T3, g1, ?_, fun v hv o ho => (a4 v hv o ho).mono g2.mono, a5.trans g2.mono, ?_⟩
          · rw [g4, List.drop_append_of_le_length (by omega)]
            exact g5
          · rw [g4, List.getElem?_append_left lk1]
            exact a6
        · rintro σ' H' ⟨E2, F2, kc2, y, rfl, a1, a2, a3, a4, a5, a6⟩
          have lk1 : k < F2.length := (List.getElem?_eq_some_iff.mp a6).1
          fail "gi"
          exact ⟨E2, F2, kc2, y, rfl, a1, a2, a3.end, a4, a5, lk1⟩
    · have hge : k = F1.length := by rw [List.length_map] at e; omega
      rw [hge, List.drop_length] at wt1
      fail "gi"
      rename_i q1 hq1
      have tf := T1.fresh hq1
      refine q _ E1 q1 kc1 tf ⟨⟨tb1.nd, tb1.der, tb1.grd, tb1.low, ?_, fun _ h => nomatch h⟩, fun r p hp => ?_, bg1⟩ mo1
      · have := tb1.pot
        show pot ws E1 + 0 ≤ _
        omega
      · rcases wt1 r p hp with z | z
        · exact z
        · cases z

/-! ### the program: words -/
instance (a : Wd) : Decidable (Word a) := (by unfold Word; exact inferInstanceAs (Decidable (1 ≤ a.length ∧ a.length ≤ 10 ∧ ∀ c ∈ a, c ∈ ABC)))
theorem Code.perm {zs ws : List Wd} (h : zs.Perm ws) (c : Code ws) : Code zs := ⟨h.nodup_iff.mpr c.nd, by rw [h.length_eq]; exact c.le, fun w hw => c.wd w (h.mem_iff.mp hw)⟩
abbrev s_is_word : Stmt := top 10
theorem sc_is_word : FnScope ["thing", "sign"] ["thing"] (defScope s_is_word) := ⟨rfl, rfl, rfl, by decide +kernel, rfl, by decide +kernel, by decide +kernel⟩
def sp_is_word : Sp := fun vs H Q _ => ∃ a : Wd, vs = [sv a] ∧ a.length ≤ 100000 ∧ Q (.bl (decide (Word a))) H
theorem ok_is_word (B : Bi mg) (G_MOST_SIGNS : ∃ t, mg "MOST_SIGNS" = some (.int 10 t)) (G_SIGNS : ∃ t, mg "SIGNS" = some (.str "abcdefghijklmnopqrstuvwxyz" t)) (D : Def K mg "is_word" s_is_word) : Cal P w K mg base CX0 "is_word" 1 ["thing"] sp_is_word := by
  have nd := sc_is_word.nd
  refine D.cal sc_is_word (fun _ _ _ _ _ _ us hl => match us, hl with | [_], _ => rfl) (fun vs H Q E h => ?_) (fun f cdv A outer s H vs Q E hr h => ?_)
  · obtain ⟨_, rfl, _⟩ := h
    rfl
  · obtain ⟨a, rfl, ha, q⟩ := h
    refine ⟨_, PSs.nox (pss_cons (ps_if (PW.pt (pw_or (pt_not (pt_val (pe_callB (call_is .str) (by rfl) B.isinstance (by decide +kernel) (pa_cons (pv 0) (pa_cons (pe_ty .str (by rfl) B.str (by decide +kernel)) pa_nil))))) (pw_or1 (pt_not (pt_chain op_le op_le pe_int (pe_callB call_lenw (by rfl) B.len PySem.boot_len (pa_cons (pv 0) pa_nil)) (pe_globi G_MOST_SIGNS rfl))))))
        (pss_one (ps_ret pe_bl))
        pss_nil)
      (pss_cons (ps_for PassesOwn.never rfl (pi_str (pv 0)) (pg_name (i := 1) nd rfl (.inl rfl))
        (pss_one (ps_if (pt_cmpR op_nig (pv 1) (pe_globw ABC rfl G_SIGNS rfl) (by rfl))
          (pss_one (ps_ret pe_bl))
          pss_nil)))
      (pss_one (ps_ret pe_bl)))), ?_⟩
    try dsimp only [cxOf, Cx.nox, Cx.wish]
    fail "gi"
    refine itd (fun e1 => ?_) fun e1 => ?_
    · fail "gi"
      refine itn (fun e2 => ?_) fun e2 => ?_
      · fail "gi"
        rw [decide_eq_false (fun z : Word a => e2 (by have := z.2.1; omega))] at q
        exact q
      · fail "gi"
        refine for_str (j := 1) (fun pre σ' H' => ∃ x1 : Option V, σ' = [some (sv a), x1] ∧ H' = H ∧ Abc pre) ⟨none, rfl, rfl, fun _ h => nomatch h⟩ ?_ ?_
        · rintro pre x post σ' H' ex ⟨x1, rfl, rfl, hA⟩
          fail "gi"
          refine itn (fun e3 => ?_) fun e3 => ?_
          · fail "gi"
            rw [decide_eq_false (fun z : Word a => e3 (z.abc x (by rw [ex]; simp)))] at q
            exact q
          · fail "gi"
            intro c hc
            rcases List.mem_append.mp hc with h | h
            · exact hA c h
            · rw [List.mem_singleton.mp h]; exact e3
        · rintro σ' H' ⟨x1, rfl, rfl, hA⟩
          fail "gi"
          rw [decide_eq_true (show Word a from ⟨by omega, by omega, hA⟩)] at q
          exact q
    · rw [decide_eq_false (fun z : Word a => e1 (by have := z.1; omega))] at q
      fail "gi"
      exact q
abbrev s_checked : Stmt := top 11
theorem sc_checked : FnScope ["words", "found", "word"] ["words"] (defScope s_checked) := ⟨rfl, rfl, rfl, by decide +kernel, rfl, by decide +kernel, by decide +kernel⟩
def sp_checked : Sp := fun vs H Q _ => ∃ p : Addr, vs = [.ref p] ∧ ∃ ws : List Wd, H p = some (.lst (ws.map sv)) ∧ Code ws ∧ ∀ zs : List Wd, zs.Perm ws → RetL H Q (zs.map sv)
theorem ok_checked (B : Bi mg) (G_MOST_WORDS : ∃ t, mg "MOST_WORDS" = some (.int 12 t)) (D : Def K mg "checked" s_checked) (c_is_word : Cal P w K mg base CX0 "is_word" 1 ["thing"] sp_is_word) : Cal P w K mg base CX0 "checked" 2 ["words"] sp_checked := by
  have nd := sc_checked.nd
  refine D.cal sc_checked (fun _ _ _ _ _ _ us hl => match us, hl with | [_], _ => rfl) (fun vs H Q E h => ?_) (fun f cdv A outer s H vs Q E hr h => ?_)
  · obtain ⟨_, rfl, _⟩ := h
    rfl
  · obtain ⟨p, rfl, ws, hp, hc, q⟩ := h
    refine ⟨_, PSs.nox (pss_cons (ps_if (pt_not (pt_val (pe_callB (call_is .lst) (by rfl) B.isinstance (by decide +kernel) (pa_cons (pv 0) (pa_cons (pe_ty .lst (by rfl) B.list (by decide +kernel)) pa_nil)))))
        (pss_one ps_never)
        pss_nil)
      (pss_cons (ps_if (pt_cmpR op_gt (pe_callB (r := rLenL K) call_lenl (by rfl) B.len PySem.boot_len (pa_cons (pv 0) pa_nil)) (pe_globi G_MOST_WORDS rfl) (nomark _))
        (pss_one ps_never)
        pss_nil)
      (pss_cons (ps_set (i := 1) nd rfl (.inl rfl) (pe_lst pa_nil))
      (pss_cons (ps_for PassesOwn.never rfl (pi_list (pv 0)) (pg_name (i := 2) nd rfl (.inl rfl))
        (pss_cons (ps_if (pt_not (pt_val (pe_cal c_is_word hr (pa_cons (pv 2) pa_nil))))
          (pss_one ps_never)
          pss_nil)
        (pss_cons (ps_if (pt_cmpR (r := rInW K false) op_inw (pv 2) (pv 1) (by rfl))
          (pss_one ps_never)
          pss_nil)
        (pss_one (ps_expr (pe_bm PySem.F.plainAttrs_list PySem.F.slot_list_append PySem.F.type_list_append mt_app (pv 1) (pa_cons (pv 2) pa_nil)))))))
      (pss_one (ps_ret (pe_callB (r := rSortedW K) call_sortedw (by rfl) B.sorted (by decide +kernel) (pa_cons (pv 1) pa_nil)))))))), ?_⟩
    try dsimp only [cxOf, Cx.nox, Cx.wish]
    have hl := hc.le
    fail "gi"
    refine itd (fun e => absurd e (by simp only [List.length_map]; omega)) fun _ => ?_
    fail "gi"
    rename_i l hl2
    refine for_wl (xs := ws) (j := 2) (fun pre σ' H' => ∃ (x2 : Option V), σ' = [some (.ref p), some (.ref l), x2] ∧ Same H H' ∧ H' l = some (.lst (pre.map sv))) ⟨none, rfl, by fail "same", by fail "look"⟩ ?_ ?_ ?_
    · rintro pre σ' H' ⟨x2, rfl, a1, a2⟩
      fail "seq"
    · rintro pre x post σ' H' ex ⟨x2, rfl, a1, a2⟩
      have hx : Word x := hc.wd x (by rw [ex]; simp)
      have hx2 : x.length ≤ 100000 := by have := hx.2.1; omega
      have hm : (pre.map sv).length < 100000 := by rw [List.length_map]; have := congrArg List.length ex; rw [List.length_append] at this; omega
      have nx : x ∉ pre := fun z => by
        have := hc.nd
        rw [ex] at this
        exact (List.nodup_append.mp this).2.2 x z x List.mem_cons_self rfl
      fail "gi"
      refine itnb (fun e => absurd hx (of_decide_eq_false e)) fun _ => ?_
      fail "gi"
      refine itd (fun e => absurd e nx) fun _ => ?_
      fail "gi"
      exact ⟨by fail "same", by fail "look"⟩
    · rintro σ' H' ⟨x2, rfl, a1, a2⟩
      fail "gi"
      intro ys py so
      fail "gi"
      exact q ys py _ _ (by fail "same") (by fail "fr") (by fail "look")
abbrev s_table_of : Stmt := top 17
theorem sc_table_of : FnScope ["words", "table", "word", "other"] ["words"] (defScope s_table_of) := ⟨rfl, rfl, rfl, by decide +kernel, rfl, by decide +kernel, by decide +kernel⟩
def sp_table_of (C : Addr) : Sp := fun vs H Q _ => ∃ p : Addr, vs = [.ref p] ∧ ∃ ws : List Wd, H p = some (.lst (ws.map sv)) ∧ Code ws ∧
  ∀ H' x E dx la ca fa kc, TabAt C H H' x E [] dx la ca fa kc → Full ws E → Q (.ref x) H'
theorem ok_table_of (B : Bi mg) (T_Table : TableC K C) (D : Def K mg "table_of" s_table_of) (c_Table___init__ : CalI P w K mg base CX0 C "Table" 1 ["self"] (sp_Table___init__ C)) (c_Table_begin : CalM P w K mg base CX0 C "begin" 2 ["self", "word", "other"] (sp_Table_begin C)) (c_Table_spread : CalM P w K mg base CX0 C "spread" 4 ["self", "words"] (sp_Table_spread C)) : Cal P w K mg base CX0 "table_of" 5 ["words"] (sp_table_of C) := by
  have nd := sc_table_of.nd
  obtain ⟨T_cl, T_n1, T_n2, T_n3⟩ := T_Table
  refine D.cal sc_table_of (fun _ _ _ _ _ _ us hl => match us, hl with | [_], _ => rfl) (fun vs H Q E h => ?_) (fun f cdv A outer s H vs Q E hr h => ?_)
  · obtain ⟨_, rfl, _⟩ := h
    rfl
  · obtain ⟨p, rfl, ws, hp, c, q⟩ := h
    refine ⟨_, PSs.nox (pss_cons (ps_set (i := 1) nd rfl (.inl rfl) (pe_calI c_Table___init__ hr))
      (pss_cons (ps_for PassesOwn.never rfl (pi_list (pv 0)) (pg_name (i := 2) nd rfl (.inl rfl))
        (pss_one (ps_for PassesOwn.never rfl (pi_list (pv 0)) (pg_name (i := 3) nd rfl (.inl rfl))
          (pss_one (ps_expr (pe_calM c_Table_begin T_cl hr (pv 1) (pa_cons (pv 2) (pa_cons (pv 3) pa_nil))))))))
      (pss_cons (ps_expr (pe_calM c_Table_spread T_cl hr (pv 1) (pa_cons (pv 0) pa_nil)))
      (pss_one (ps_ret (pv 1)))))), ?_⟩
    try dsimp only [cxOf, Cx.nox, Cx.wish]
    fail "gi"
    intro x dx hx hd ne
    refine ⟨x, rfl, H, dx, hx, mutd (new hd) hx, upd_same, fun H1 la ca fa T => ⟨rfl, ?_⟩⟩
    have hp1 := T.s _ _ hp
    fail "gi"
    refine for_wl (xs := ws) (j := 2) (fun pre σ' H' => ∃ (E : Tb) (F : List Wd) (kc : List (Key × V)) (y z : Option V), σ' = [some (.ref p), some (.ref x), y, z] ∧ TabAt C H H' x E F dx la ca fa kc ∧ Tbl ws E F ∧ (∀ r n, look E r = some n → r ∈ F) ∧ (∀ w ∈ pre, ∀ o ∈ ws, Bg E w o))
      ⟨[], [], [], none, none, rfl, T, ⟨Tbl.nil c, (fun r n h => by cases h), fun _ h => by cases h⟩⟩ ?_ ?_ ?_
    · rintro pre σ' H' ⟨E, F, kc, y, z, rfl, a1, a2, a3, a4⟩
      exact SqL.of (a1.s _ _ hp)
    · rintro pre w' post σ' H' ex ⟨E, F, kc, y, z, rfl, a1, a2, a3, a4⟩
      have hw : w' ∈ ws := by rw [ex]; exact List.mem_append_right _ List.mem_cons_self
      have hp2 := a1.s _ _ hp
      fail "gi"
      refine for_wl (xs := ws) (j := 3) (fun pre1 σ' H' => ∃ (E : Tb) (F : List Wd) (kc : List (Key × V)) (z : Option V), σ' = [some (.ref p), some (.ref x), some (sv w'), z] ∧ TabAt C H H' x E F dx la ca fa kc ∧ Tbl ws E F ∧ (∀ r n, look E r = some n → r ∈ F) ∧ (∀ w ∈ pre, ∀ o ∈ ws, Bg E w o) ∧ ∀ o ∈ pre1, Bg E w' o)
        ⟨E, F, kc, z, rfl, a1, a2, a3, a4, fun _ h => nomatch h⟩ ?_ ?_ ?_
      · rintro pre σ' H' ⟨E, F, kc, z, rfl, a1, a2, a3, a4⟩
        exact SqL.of (a1.s _ _ hp)
      · rintro pre1 o' post1 σ' H' ex1 ⟨E, F, kc, z, rfl, a1, a2, a3, a4, a5⟩
        have ho : o' ∈ ws := by rw [ex1]; exact List.mem_append_right _ List.mem_cons_self
        have hx := a1.hx
        unfold tabF at hx
        fail "gi"
        have := c.len hw
        have := c.len ho
        have := a2.len c
        have b := a2.flen
        refine ⟨H, E, F, dx, la, ca, fa, kc, a1, by omega, by omega, by omega, by omega, fun H3 kc3 T3 => ?_⟩
        obtain ⟨g1, g2, g3⟩ := a2.begin c hw ho
        obtain ⟨G, g4, g5⟩ := g2.ex
        refine ⟨_, _, kc3, _, rfl, T3, g1, fun r n hr => ?_, fun v hv o h => (a4 v hv o h).mono g2.mono, fun o h => ?_⟩
        · rw [g4]
          rcases g5 r n hr with z | z
          · exact List.mem_append_left _ (a3 r n z)
          · exact List.mem_append_right _ z
        · rcases List.mem_append.mp h with h | h
          · exact (a5 o h).mono g2.mono
          · rw [List.mem_singleton.mp h]; exact g3
      · rintro σ' H' ⟨E, F, kc, z, rfl, a1, a2, a3, a4, a5⟩
        fail "gi"
        refine ⟨E, F, kc, _, _, rfl, a1, a2, a3, fun v hv o h => ?_⟩
        rcases List.mem_append.mp hv with hv | hv
        · exact a4 v hv o h
        · rw [List.mem_singleton.mp hv]; exact a5 o h
    · rintro σ' H' ⟨E, F, kc, y, z, rfl, a1, a2, a3, a4⟩
      have hx := a1.hx
      unfold tabF at hx
      fail "gi"
      refine ⟨ws, c, H, E, F, dx, la, ca, fa, kc, a1, hp, a2, fun r n h => .inr (a3 r n h), a4, fun H3 E3 fa3 kc3 T3 f3 _ => ?_⟩
      fail "gi"
      exact q _ x E3 dx la ca fa3 kc3 T3 f3
abbrev s_least : Stmt := top 18
theorem sc_least : FnScope ["words"] ["words"] (defScope s_least) := ⟨rfl, rfl, rfl, by decide +kernel, rfl, by decide +kernel, by decide +kernel⟩
def sp_least : Sp := fun vs H Q _ => ∃ p : Addr, vs = [.ref p] ∧ ∃ ws : List Wd, H p = some (.lst (ws.map sv)) ∧ Code ws ∧ ∀ E, Lst ws E → RetD H Q (dE E)
theorem ok_least (B : Bi mg) (T_Table : TableC K C) (D : Def K mg "least" s_least) (c_checked : Cal P w K mg base CX0 "checked" 2 ["words"] sp_checked) (c_table_of : Cal P w K mg base CX0 "table_of" 5 ["words"] (sp_table_of C)) : Cal P w K mg base CX0 "least" 6 ["words"] sp_least := by
  have nd := sc_least.nd
  obtain ⟨T_cl, T_n1, T_n2, T_n3⟩ := T_Table
  refine D.cal sc_least (fun _ _ _ _ _ _ us hl => match us, hl with | [_], _ => rfl) (fun vs H Q E h => ?_) (fun f cdv A outer s H vs Q E hr h => ?_)
  · obtain ⟨_, rfl, _⟩ := h
    rfl
  · obtain ⟨p, rfl, ws, hp, c, q⟩ := h
    refine ⟨_, PSs.nox (pss_one (ps_ret (pe_callTy (r := rDictOf) call_dictn (by rfl) B.dict (by decide +kernel) (pa_cons (pe_fld (pe_cal c_table_of hr (pa_cons (pe_cal c_checked hr (pa_cons (pv 0) pa_nil)) pa_nil)) rfl) pa_nil)))), ?_⟩
    try dsimp only [cxOf, Cx.nox, Cx.wish]
    fail "gi"
    intro zs pz
    fail "gi"
    rename_i p1 H1 s1 n1 hp1
    have hz := Code.perm pz c
    refine ⟨hz, fun H2 x E dx la ca fa kc T f => ?_⟩
    have hx := T.hx
    unfold tabF at hx
    have hl := T.hl
    fail "gi"
    rename_i p2 hp2
    exact q E ((f.lst hz).perm fun w => pz.mem_iff) p2 _ (s1.trans (T.s.trans (new hp2))) (s1.free (T.s.free hp2)) upd_same

def cell (ns : List Int) (k : Int) : Int := ns.getD k.toNat 0
abbrev s_law_at : Stmt := top 25
theorem sc_law_at : FnScope ["_law_script", "_law_k"] ["_law_script", "_law_k"] (defScope s_law_at) := ⟨rfl, rfl, rfl, by decide +kernel, rfl, by decide +kernel, by decide +kernel⟩
def sp_law_at (K : PySem.W.Frag) : Sp := fun vs H Q _ => ∃ (p : Addr) (k : Int), vs = [.ref p, .int k] ∧ ∃ ns : List Int, SqL K H p (ns.map V.int) ∧ 0 ≤ k ∧ Q (.int (cell ns k)) H
theorem ok_law_at (B : Bi mg) (D : Def K mg "_law_at" s_law_at) : Cal P w K mg base CX0 "_law_at" 1 ["_law_script", "_law_k"] (sp_law_at K) := by
  have nd := sc_law_at.nd
  refine D.cal sc_law_at (fun _ _ _ _ _ _ us hl => match us, hl with | [_, _], _ => rfl) (fun vs H Q E h => ?_) (fun f cdv A outer s H vs Q E hr h => ?_)
  · obtain ⟨_, _, rfl, _⟩ := h
    rfl
  · obtain ⟨p, k, rfl, ns, hS, h0, q⟩ := h
    refine ⟨_, PSs.nox (pss_cons (ps_if (pt_cmpR op_lt (pv 1) (pe_callB (r := rLenL K) call_lenl (by rfl) B.len PySem.boot_len (pa_cons (pv 0) pa_nil)) (nomark _))
        (pss_one (ps_ret (pe_ix (r := rIxLn K) ix_l (pv 0) (pv 1) (fun _ _ => rfl))))
        pss_nil)
      (pss_one (ps_ret pe_int))), ?_⟩
    try dsimp only [cxOf, Cx.nox, Cx.wish]
    fail "go"
    refine itd (fun e => ?_) fun e => ?_
    · rw [List.length_map] at e
      have h1 : k.toNat < ns.length := by omega
      fail "go"
      refine ⟨.int (cell ns k), ?_, q⟩
      rw [List.getElem?_map, List.getElem?_eq_getElem h1]
      unfold cell
      rw [List.getD_eq_getElem?_getD, List.getElem?_eq_getElem h1]
      rfl
    · rw [List.length_map] at e
      have : cell ns k = 0 := by
        unfold cell
        rw [List.getD_eq_getElem?_getD, List.getElem?_eq_none (by omega)]
        rfl
      rw [this] at q
      exact q
def mixed (c k : Int) : Int := (c + 7919 * k + 3) * 48271 % 2147483647 * ((c + 7919 * k + 3) * 48271 % 2147483647) % 2147483629
theorem mixed_nn (c k : Int) : 0 ≤ mixed c k := Int.emod_nonneg _ (by decide)
abbrev s_law_mixed : Stmt := top 26
theorem sc_law_mixed : FnScope ["_law_cell", "_law_k", "_law_number"] ["_law_cell", "_law_k"] (defScope s_law_mixed) := ⟨rfl, rfl, rfl, by decide +kernel, rfl, by decide +kernel, by decide +kernel⟩
def sp_law_mixed : Sp := fun vs H Q _ => ∃ c k : Int, vs = [.int c, .int k] ∧ Q (.int (mixed c k)) H
theorem ok_law_mixed (B : Bi mg) (D : Def K mg "_law_mixed" s_law_mixed) : Cal P w K mg base CX0 "_law_mixed" 1 ["_law_cell", "_law_k"] sp_law_mixed := by
  have nd := sc_law_mixed.nd
  refine D.cal sc_law_mixed (fun _ _ _ _ _ _ us hl => match us, hl with | [_, _], _ => rfl) (fun vs H Q E h => ?_) (fun f cdv A outer s H vs Q E hr h => ?_)
  · obtain ⟨_, _, rfl, _⟩ := h
    rfl
  · obtain ⟨c, k, rfl, q⟩ := h
    refine ⟨_, PSs.nox (pss_cons (ps_set (i := 2) nd rfl (.inl rfl) (pe_op op_mod (pe_op op_mul (pe_op op_add (pe_op op_add (pv 0) (pe_op op_mul pe_int (pv 1))) pe_int) pe_int) pe_int))
      (pss_one (ps_ret (pe_op op_mod (pe_op op_mul (pv 2) (pv 2)) pe_int)))), ?_⟩
    try dsimp only [cxOf, Cx.nox, Cx.wish]
    have h1 := Int.emod_nonneg ((c + 7919 * k + 3) * 48271) (show (2147483647 : Int) ≠ 0 by decide)
    have h2 := Int.emod_lt_of_pos ((c + 7919 * k + 3) * 48271) (show (0 : Int) < 2147483647 by decide)
    fail "go"
    exact q
abbrev s_law_whole : Stmt := top 27
theorem sc_law_whole : FnScope ["_law_found"] ["_law_found"] (defScope s_law_whole) := ⟨rfl, rfl, rfl, by decide +kernel, rfl, by decide +kernel, by decide +kernel⟩
def sp_law_whole : Sp := fun vs H Q _ => ∃ n : Int, vs = [.int n] ∧ Q (.bl true) H
theorem ok_law_whole (B : Bi mg) (D : Def K mg "_law_whole" s_law_whole) : Cal P w K mg base CX0 "_law_whole" 1 ["_law_found"] sp_law_whole := by
  have nd := sc_law_whole.nd
  refine D.cal sc_law_whole (fun _ _ _ _ _ _ us hl => match us, hl with | [_], _ => rfl) (fun vs H Q E h => ?_) (fun f cdv A outer s H vs Q E hr h => ?_)
  · obtain ⟨_, rfl, _⟩ := h
    rfl
  · obtain ⟨n, rfl, q⟩ := h
    refine ⟨_, PSs.nox (pss_one (ps_ret (pe_and (pe_callB (call_is .int) (by rfl) B.isinstance (by decide +kernel) (pa_cons (pv 0) (pa_cons (pe_ty .int (by rfl) B.int (by decide +kernel)) pa_nil))) (pe_one (pe_not (pe_callB (call_is .bl) (by rfl) B.isinstance (by decide +kernel) (pa_cons (pv 0) (pa_cons (pe_ty .bl (by rfl) B.bool (by decide +kernel)) pa_nil)))))))), ?_⟩
    try dsimp only [cxOf, Cx.nox, Cx.wish]
    fail "go"
    exact q

abbrev s_law_signs : Stmt := top 28
theorem sc_law_signs : FnScope ["_law_cell", "_law_some", "_law_many", "_law_k"] ["_law_cell"] (defScope s_law_signs) := ⟨rfl, rfl, rfl, by decide +kernel, rfl, by decide +kernel, by decide +kernel⟩
def sp_law_signs : Sp := fun vs H Q _ => ∃ c : Int, vs = [.int c] ∧ ∀ a : Wd, a ≠ [] → a.length ≤ 26 → Abc a → Ret H Q (sv a)
theorem ok_law_signs (B : Bi mg) (D : Def K mg "_law_signs" s_law_signs) : Cal P w K mg base CX0 "_law_signs" 1 ["_law_cell"] sp_law_signs := by
  have nd := sc_law_signs.nd
  refine D.cal sc_law_signs (fun _ _ _ _ _ _ us hl => match us, hl with | [_], _ => rfl) (fun vs H Q E h => ?_) (fun f cdv A outer s H vs Q E hr h => ?_)
  · obtain ⟨_, rfl, _⟩ := h
    rfl
  · obtain ⟨c, rfl, q⟩ := h
    refine ⟨_, PSs.nox (pss_cons (ps_set (i := 1) nd rfl (.inr rfl) (pe_w ABC rfl))
      (pss_cons (ps_set (i := 2) nd rfl (.inl rfl) (pe_ix (r := rIxLn K) ix_l (pe_lst (pa_cons pe_int (pa_cons pe_int (pa_cons pe_int (pa_cons pe_int (pa_cons pe_int (pa_cons pe_int pa_nil))))))) (pe_op op_mod (pv 0) pe_int) (fun _ _ => rfl)))
      (pss_one (ps_ret (pe_m1 (r := rJoW K) PySem.F.slot_str_join PySem.F.type_str_join mt_jow (pe_w [] rfl) (pe_lc (own := [("_law_k", 3)]) (g := gName 3) (tt := tYes) rfl nd (pi_range1 (by rfl) B.range (pa_cons (pv 2) pa_nil)) (blkOk_by (own := [("_law_k", 3)]) (N := ["_law_cell", "_law_some", "_law_many", "_law_k"]) (sc := defScope s_law_signs) (by decide +kernel)) (fun _ _ _ _ _ => (pg_name (i := 3) nd rfl (.inl rfl))) (fun _ _ _ _ _ => pts_nil) (fun _ _ _ _ _ => (pe_ix ix_w (pv 1) (pe_op op_mod (pe_op op_add (pe_op op_fdiv (pv 0) pe_int) (pe_op op_mul (pe_op op_add pe_int (pe_op op_mod (pe_op op_fdiv (pv 0) pe_int) pe_int)) (pv 3))) pe_int) (fun _ _ => rfl))))))))), ?_⟩
    try dsimp only [cxOf, Cx.nox, Cx.wish]
    fail "gi"
    rename_i p hp
    obtain ⟨v, hv, ev⟩ := pickm [V.int 2, V.int 1, V.int 2, V.int 3, V.int 2, V.int 5] c (by simp)
    obtain ⟨m, rfl, m0, m1⟩ : ∃ m : Nat, v = .int (m : Int) ∧ 1 ≤ m ∧ m ≤ 26 := by
      simp only [List.mem_cons, List.not_mem_nil, or_false] at hv
      rcases hv with rfl | rfl | rfl | rfl | rfl | rfl
      · exact ⟨2, rfl, by decide, by decide⟩
      · exact ⟨1, rfl, by decide, by decide⟩
      · exact ⟨2, rfl, by decide, by decide⟩
      · exact ⟨3, rfl, by decide, by decide⟩
      · exact ⟨2, rfl, by decide, by decide⟩
      · exact ⟨5, rfl, by decide, by decide⟩
    refine ⟨_, ev, ?_⟩
    fail "go"
    refine fun D hD => ?_
    have hn : ∀ i : Nat, ∃ x : Nat, x ∈ ABC ∧ ABC[((c / 6 + (1 + c / 156 % 25) * (0 + (i : Int))) % 26).toNat]? = some x := fun i => pickm ABC _ (by decide)
    refine lc_rng (lo := 0) (n := m) (j := 3) (fun i => sv [(hn i).choose]) hD (by omega) (fun i hi H1 e1 Q1 q1 => ?_) (fun H1 e1 h1 => ?_)
    · have hc0 := Int.emod_nonneg (c / 156) (show (25 : Int) ≠ 0 by decide)
      have hc1 := Int.emod_lt_of_pos (c / 156) (show (0 : Int) < 25 by decide)
      fail "go"
      exact ⟨_, (hn i).choose_spec.2, q1 _ (Same.refl _)⟩
    · fail "go"
      have ef := flat1 (fun i => (hn i).choose) (List.range m)
      have el : ((List.range m).map fun i => (hn i).choose).length = m := by rw [List.length_map, List.length_range]
      refine ⟨(List.range m).map fun i => [(hn i).choose], SqL.of (by rw [h1, List.map_map]; rfl), by rw [ef]; omega, ?_⟩
      rw [ef]
      refine q _ (fun z => ?_) (by omega) (fun x hx => ?_) _ (by fail "same")
      · rw [z] at el; simp at el; omega
      · obtain ⟨i, _, rfl⟩ := List.mem_map.mp hx
        exact (hn i).choose_spec.1
abbrev s_law_word : Stmt := top 29
theorem sc_law_word : FnScope ["_law_cell", "_law_signs_here", "_law_size", "_law_j"] ["_law_cell", "_law_signs_here"] (defScope s_law_word) := ⟨rfl, rfl, rfl, by decide +kernel, rfl, by decide +kernel, by decide +kernel⟩
def sp_law_word : Sp := fun vs H Q _ => ∃ (c : Int) (g : Wd), vs = [.int c, sv g] ∧ g ≠ [] ∧ g.length ≤ 26 ∧ Abc g ∧ ∀ a : Wd, Word a → Ret H Q (sv a)
theorem ok_law_word (B : Bi mg) (D : Def K mg "_law_word" s_law_word) (c_law_mixed : Cal P w K mg base CX0 "_law_mixed" 1 ["_law_cell", "_law_k"] sp_law_mixed) : Cal P w K mg base CX0 "_law_word" 2 ["_law_cell", "_law_signs_here"] sp_law_word := by
  have nd := sc_law_word.nd
  refine D.cal sc_law_word (fun _ _ _ _ _ _ us hl => match us, hl with | [_, _], _ => rfl) (fun vs H Q E h => ?_) (fun f cdv A outer s H vs Q E hr h => ?_)
  · obtain ⟨_, _, rfl, _⟩ := h
    rfl
  · obtain ⟨c, g, rfl, hg, hl, hA, q⟩ := h
    refine ⟨_, PSs.nox (pss_cons (ps_set (i := 2) nd rfl (.inl rfl) (pe_ix (r := rIxLn K) ix_l (pe_lst (pa_cons pe_int (pa_cons pe_int (pa_cons pe_int (pa_cons pe_int (pa_cons pe_int (pa_cons (pe_op op_add pe_int (pe_op op_mod (pe_op op_fdiv (pv 0) pe_int) pe_int)) (pa_cons pe_int (pa_cons pe_int pa_nil))))))))) (pe_op op_mod (pv 0) pe_int) (fun _ _ => rfl)))
      (pss_one (ps_ret (pe_m1 (r := rJoW K) PySem.F.slot_str_join PySem.F.type_str_join mt_jow (pe_w [] rfl) (pe_lc (own := [("_law_j", 3)]) (g := gName 3) (tt := tYes) rfl nd (pi_range1 (by rfl) B.range (pa_cons (pv 2) pa_nil)) (blkOk_by (own := [("_law_j", 3)]) (N := ["_law_cell", "_law_signs_here", "_law_size", "_law_j"]) (sc := defScope s_law_word) (by decide +kernel)) (fun _ _ _ _ _ => (pg_name (i := 3) nd rfl (.inl rfl))) (fun _ _ _ _ _ => pts_nil) (fun _ _ _ _ _ => (pe_ix ix_w (pv 1) (pe_op op_mod (pe_op op_fdiv (pe_cal c_law_mixed hr (pa_cons (pv 0) (pa_cons (pv 3) pa_nil))) pe_int) (pe_callB call_lenw (by rfl) B.len PySem.boot_len (pa_cons (pv 1) pa_nil))) (fun _ _ => rfl)))))))), ?_⟩
    try dsimp only [cxOf, Cx.nox, Cx.wish]
    have hc0 := Int.emod_nonneg (c / 8) (show (10 : Int) ≠ 0 by decide)
    have hc1 := Int.emod_lt_of_pos (c / 8) (show (0 : Int) < 10 by decide)
    fail "gi"
    rename_i p hp
    obtain ⟨v, hv, ev⟩ := pickm [V.int 1, V.int 2, V.int 3, V.int 2, V.int 4, V.int (1 + c / 8 % 10), V.int 3, V.int 2] c (by simp)
    obtain ⟨n, rfl, n0, n1⟩ : ∃ n : Int, v = .int n ∧ 1 ≤ n ∧ n ≤ 10 := by
      simp only [List.mem_cons, List.not_mem_nil, or_false] at hv
      rcases hv with rfl | rfl | rfl | rfl | rfl | rfl | rfl | rfl
      all_goals exact ⟨_, rfl, by omega, by omega⟩
    refine ⟨_, ev, ?_⟩
    fail "go"
    refine fun D hD => ?_
    have hn : ∀ i : Nat, ∃ x : Nat, x ∈ g ∧ g[(mixed c (0 + (i : Int)) / 64 % (g.length : Int)).toNat]? = some x := fun i => pickm g _ hg
    have hgl : 0 < g.length := List.length_pos_iff.mpr hg
    refine lc_rng (lo := 0) (n := n.toNat) (j := 3) (fun i => sv [(hn i).choose]) hD (by omega) (fun i hi H1 e1 Q1 q1 => ?_) (fun H1 e1 h1 => ?_)
    · fail "go"
      exact ⟨_, (hn i).choose_spec.2, q1 _ (Same.refl _)⟩
    · fail "go"
      have ef := flat1 (fun i => (hn i).choose) (List.range n.toNat)
      have el : ((List.range n.toNat).map fun i => (hn i).choose).length = n.toNat := by rw [List.length_map, List.length_range]
      refine ⟨(List.range n.toNat).map fun i => [(hn i).choose], SqL.of (by rw [h1, List.map_map]; rfl), by rw [ef]; omega, ?_⟩
      rw [ef]
      refine q _ ⟨by omega, by omega, fun x hx => ?_⟩ _ (by fail "same")
      obtain ⟨i, _, rfl⟩ := List.mem_map.mp hx
      exact hA _ (hn i).choose_spec.1
abbrev s_law_any_word : Stmt := top 30
theorem sc_law_any_word : FnScope ["_law_cell", "_law_word_here", "_law_more_here", "_law_j"] ["_law_cell"] (defScope s_law_any_word) := ⟨rfl, rfl, rfl, by decide +kernel, rfl, by decide +kernel, by decide +kernel⟩
def sp_law_any_word : Sp := fun vs H Q _ => ∃ c : Int, vs = [.int c] ∧ ∀ a : Wd, Word a → Ret H Q (sv a)
theorem ok_law_any_word (B : Bi mg) (D : Def K mg "_law_any_word" s_law_any_word) : Cal P w K mg base CX0 "_law_any_word" 1 ["_law_cell"] sp_law_any_word := by
  have nd := sc_law_any_word.nd
  refine D.cal sc_law_any_word (fun _ _ _ _ _ _ us hl => match us, hl with | [_], _ => rfl) (fun vs H Q E h => ?_) (fun f cdv A outer s H vs Q E hr h => ?_)
  · obtain ⟨_, rfl, _⟩ := h
    rfl
  · obtain ⟨c, rfl, q⟩ := h
    refine ⟨_, PSs.nox (pss_cons (ps_set (i := 1) nd rfl (.inl rfl) (pe_w [] rfl))
      (pss_cons (ps_set (i := 2) nd rfl (.inl rfl) (pe_op op_fdiv (pv 0) pe_int))
      (pss_cons (ps_for PassesOwn.never rfl (pi_range1 (by rfl) B.range (pa_cons (pe_op op_add pe_int (pe_op op_mod (pv 0) pe_int)) pa_nil)) (pg_name (i := 3) nd rfl (.inl rfl))
        (pss_cons (ps_set (i := 1) nd rfl (.inl rfl) (pe_op op_addw (pv 1) (pe_ix ix_w (pe_w ABC rfl) (pe_op op_mod (pv 2) pe_int) (fun _ _ => rfl))))
        (pss_one (ps_set (i := 2) nd rfl (.inl rfl) (pe_op op_fdiv (pv 2) pe_int)))))
      (pss_one (ps_ret (pv 1)))))), ?_⟩
    try dsimp only [cxOf, Cx.nox, Cx.wish]
    have hc0 := Int.emod_nonneg c (show (10 : Int) ≠ 0 by decide)
    have hc1 := Int.emod_lt_of_pos c (show (0 : Int) < 10 by decide)
    fail "gi"
    refine for_range (fun i σ' H' => ∃ (a : Wd) (m : Int) (x3 : Option V), σ' = [some (.int c), some (sv a), some (.int m), x3] ∧ Same H H' ∧ a.length = i ∧ Abc a) ⟨[], _, _, rfl, Same.refl _, rfl, fun _ h => nomatch h⟩ ?_ ?_
    · rintro i σ' H' hi ⟨a, m, x3, rfl, s1, hl, hA⟩
      obtain ⟨x, hx, ex⟩ := pickm ABC m (by decide)
      fail "go"
      refine ⟨x, ex, ?_⟩
      fail "go"
      refine ⟨by simp [hl], fun y hy => ?_⟩
      rcases List.mem_append.mp hy with h | h
      · exact hA y h
      · rw [List.mem_singleton.mp h]; exact hx
    · rintro σ' H' ⟨a, m, x3, rfl, s1, hl, hA⟩
      fail "go"
      exact q a ⟨by omega, by omega, hA⟩ _ s1

abbrev s_law_more : Stmt := top 31
theorem sc_law_more : FnScope ["_law_words_here", "_law_cell", "_law_signs_here", "_law_one", "_law_other", "_law_at_here", "_law_some"] ["_law_words_here", "_law_cell", "_law_signs_here"] (defScope s_law_more) := ⟨rfl, rfl, rfl, by decide +kernel, rfl, by decide +kernel, by decide +kernel⟩
def sp_law_more : Sp := fun vs H Q _ => ∃ (p : Addr) (c : Int) (g : Wd), vs = [.ref p, .int c, sv g] ∧ ∃ ws : List Wd, H p = some (.lst (ws.map sv)) ∧ ws ≠ [] ∧ (∀ w ∈ ws, Word w) ∧ g ≠ [] ∧ g.length ≤ 26 ∧ Abc g ∧ ∀ a : Wd, Word a → Ret H Q (sv a)
theorem ok_law_more (B : Bi mg) (D : Def K mg "_law_more" s_law_more) (c_law_word : Cal P w K mg base CX0 "_law_word" 2 ["_law_cell", "_law_signs_here"] sp_law_word) : Cal P w K mg base CX0 "_law_more" 3 ["_law_words_here", "_law_cell", "_law_signs_here"] sp_law_more := by
  have nd := sc_law_more.nd
  refine D.cal sc_law_more (fun _ _ _ _ _ _ us hl => match us, hl with | [_, _, _], _ => rfl) (fun vs H Q E h => ?_) (fun f cdv A outer s H vs Q E hr h => ?_)
  · obtain ⟨_, _, _, rfl, _⟩ := h
    rfl
  · obtain ⟨p, c, g, rfl, ws, hp, hn, hw, hg, hgl, hA, q⟩ := h
    refine ⟨_, PSs.nox (pss_cons (ps_set (i := 3) nd rfl (.inl rfl) (pe_ix (r := rIxLn K) ix_l (pv 0) (pe_op op_mod (pe_op op_fdiv (pv 1) pe_int) (pe_callB (r := rLenL K) call_lenl (by rfl) B.len PySem.boot_len (pa_cons (pv 0) pa_nil))) (fun _ _ => rfl)))
      (pss_cons (ps_set (i := 4) nd rfl (.inl rfl) (pe_ix (r := rIxLn K) ix_l (pv 0) (pe_op op_mod (pe_op op_fdiv (pv 1) pe_int) (pe_callB (r := rLenL K) call_lenl (by rfl) B.len PySem.boot_len (pa_cons (pv 0) pa_nil))) (fun _ _ => rfl)))
      (pss_cons (ps_set (i := 5) nd rfl (.inl rfl) (pe_op op_mod (pe_op op_fdiv (pv 1) pe_int) (pe_callB call_lenw (by rfl) B.len PySem.boot_len (pa_cons (pv 3) pa_nil))))
      (pss_cons (ps_set (i := 6) nd rfl (.inl rfl) (pe_lst (pa_cons (pe_op op_addw (pv 3) (pv 4)) (pa_cons (pe_op op_addw (pv 3) (pv 4)) (pa_cons (pe_op op_addw (pv 4) (pv 3)) (pa_cons (pe_op op_addw (pv 3) (pe_cal c_law_word hr (pa_cons (pe_op op_fdiv (pv 1) pe_int) (pa_cons (pv 2) pa_nil)))) (pa_cons (pe_op op_addw (pe_cal c_law_word hr (pa_cons (pe_op op_fdiv (pv 1) pe_int) (pa_cons (pv 2) pa_nil))) (pv 3)) pa_nil)))))))
      (pss_one (ps_ret (pe_slice (r := rSlW) sl_w (pe_ix (r := rIxLn K) ix_l (pe_op op_catl (pv 6) (pe_lst (pa_cons (pe_slice (r := rSlW) sl_w (pv 3) (po_some (pv 5)) po_none) (pa_cons (pe_slice (r := rSlW) sl_w (pv 3) po_none (po_some (pe_op op_add (pv 5) pe_int))) (pa_cons (pe_op op_addw (pe_slice (r := rSlW) sl_w (pv 3) (po_some (pv 5)) po_none) (pv 4)) pa_nil))))) (pe_op op_mod (pv 1) pe_int) (fun _ _ => rfl)) po_none (po_some pe_int)))))))), ?_⟩
    try dsimp only [cxOf, Cx.nox, Cx.wish]
    have hn' : ws.map sv ≠ [] := fun z => hn (List.map_eq_nil_iff.mp z)
    have hpos : 0 < (ws.map sv).length := List.length_pos_iff.mpr hn'
    fail "gi"
    refine ex_pickm hn' fun v1 h1 => ?_
    obtain ⟨one, m1, rfl⟩ := List.mem_map.mp h1
    have w1 := hw one m1
    have w1' := w1.1
    have w1'' := w1.2.1
    fail "gi"
    refine ex_pickm hn' fun v2 h2 => ?_
    obtain ⟨oth, m2, rfl⟩ := List.mem_map.mp h2
    have w2 := hw oth m2
    have w2' := w2.1
    have w2'' := w2.2.1
    fail "gi"
    intro u hu
    have u1 := hu.1
    have u2 := hu.2.1
    fail "gi"
    intro u' hu'
    have u1' := hu'.1
    have u2' := hu'.2.1
    have l0 := Int.emod_nonneg (c / 1352) (show (one.length : Int) ≠ 0 by omega)
    have l1 := Int.emod_lt_of_pos (c / 1352) (show (0 : Int) < one.length by omega)
    have k1 := cutW_len one (some (c / 1352 % (one.length : Int))) none
    fail "gi"
    refine ex_pick (Int.emod_nonneg _ (by decide)) (Int.emod_lt_of_pos _ (by decide)) fun v hv => ?_
    obtain ⟨a, rfl, hAa, ha1, ha2⟩ : ∃ a : Wd, v = sv a ∧ Abc a ∧ 1 ≤ a.length ∧ a.length ≤ 100 := by
      have a1 := w1.abc
      have a2 := w2.abc
      have k2 := cutW_len one none (some (c / 1352 % (one.length : Int) + 1))
      have k3 : 1 ≤ (cutW one (some (c / 1352 % (one.length : Int))) none).length := by
        rw [cutW_fromI one l0, List.length_drop]; omega
      have k4 : 1 ≤ (cutW one none (some (c / 1352 % (one.length : Int) + 1))).length := by
        rw [cutW_toI one (by omega), List.length_take]; omega
      simp only [List.mem_append, List.mem_cons, List.not_mem_nil, or_false] at hv
      rcases hv with (rfl | rfl | rfl | rfl | rfl) | rfl | rfl | rfl
      · exact ⟨_, rfl, a1.app a2, by rw [List.length_append]; omega, by rw [List.length_append]; omega⟩
      · exact ⟨_, rfl, a1.app a2, by rw [List.length_append]; omega, by rw [List.length_append]; omega⟩
      · exact ⟨_, rfl, a2.app a1, by rw [List.length_append]; omega, by rw [List.length_append]; omega⟩
      · exact ⟨_, rfl, a1.app hu.abc, by rw [List.length_append]; omega, by rw [List.length_append]; omega⟩
      · exact ⟨_, rfl, hu'.abc.app a1, by rw [List.length_append]; omega, by rw [List.length_append]; omega⟩
      · exact ⟨_, rfl, cutW_abc a1 _ _, k3, by omega⟩
      · exact ⟨_, rfl, cutW_abc a1 _ _, k4, by omega⟩
      · exact ⟨_, rfl, (cutW_abc a1 _ _).app a2, by rw [List.length_append]; omega, by rw [List.length_append]; omega⟩
    fail "gi"
    exact q _ (Word.cut hAa ha1 (by decide) (by decide)) _ (by fail "same")
theorem rot (W : List Wd) {i : Int} (h : 0 ≤ i) : cutV (W.map sv) (some i) none ++ cutV (W.map sv) none (some i) = (W.drop i.toNat ++ W.take i.toNat).map sv := by
  rw [cutV_fromI h, cutV_toI h, List.map_append, List.map_drop, List.map_take]
theorem rot_len (W : List Wd) {i : Int} (h : 0 ≤ i) : (cutV (W.map sv) (some i) none).length + (cutV (W.map sv) none (some i)).length = W.length := by
  rw [← List.length_append, rot W h, List.length_map, List.length_append, List.length_drop, List.length_take]; omega
theorem rot_mem {W : List Wd} {n : Nat} {w : Wd} (h : w ∈ W.drop n ++ W.take n) : w ∈ W := (List.mem_append.mp h).elim List.mem_of_mem_drop List.mem_of_mem_take
abbrev s_law_chain : Stmt := top 32
theorem sc_law_chain : FnScope ["_law_script", "_law_first", "_law_signs_here", "_law_links", "_law_k", "_law_words_here", "_law_turn"] ["_law_script", "_law_first", "_law_signs_here"] (defScope s_law_chain) := ⟨rfl, rfl, rfl, by decide +kernel, rfl, by decide +kernel, by decide +kernel⟩
def sp_law_chain (K : PySem.W.Frag) : Sp := fun vs H Q _ => ∃ (p : Addr) (k : Int) (g : Wd), vs = [.ref p, .int k, sv g] ∧ ∃ ns : List Int, SqL K H p (ns.map V.int) ∧ 0 ≤ k ∧ g ≠ [] ∧ g.length ≤ 26 ∧ Abc g ∧ ∀ ws : List Wd, ws ≠ [] → ws.length ≤ 10 → (∀ w ∈ ws, Word w) → RetL H Q (ws.map sv)
theorem ok_law_chain (B : Bi mg) (D : Def K mg "_law_chain" s_law_chain) (c_law_at : Cal P w K mg base CX0 "_law_at" 1 ["_law_script", "_law_k"] (sp_law_at K)) (c_law_mixed : Cal P w K mg base CX0 "_law_mixed" 1 ["_law_cell", "_law_k"] sp_law_mixed) (c_law_word : Cal P w K mg base CX0 "_law_word" 2 ["_law_cell", "_law_signs_here"] sp_law_word) : Cal P w K mg base CX0 "_law_chain" 3 ["_law_script", "_law_first", "_law_signs_here"] (sp_law_chain K) := by
  have nd := sc_law_chain.nd
  refine D.cal sc_law_chain (fun _ _ _ _ _ _ us hl => match us, hl with | [_, _, _], _ => rfl) (fun vs H Q E h => ?_) (fun f cdv A outer s H vs Q E hr h => ?_)
  · obtain ⟨_, _, _, rfl, _⟩ := h
    rfl
  · obtain ⟨p, k, g, rfl, ns, hS, hk, hg, hgl, hA, q⟩ := h
    refine ⟨_, PSs.nox (pss_cons (ps_set (i := 3) nd rfl (.inr rfl) (pe_lst pa_nil))
      (pss_cons (ps_for PassesOwn.never rfl (pi_range1 (by rfl) B.range (pa_cons (pe_op op_add pe_int (pe_op op_mod (pe_op op_fdiv (pe_cal c_law_at hr (pa_cons (pv 0) (pa_cons (pv 1) pa_nil))) pe_int) pe_int)) pa_nil)) (pg_name (i := 4) nd rfl (.inl rfl))
        (pss_one (ps_expr (pe_bm PySem.F.plainAttrs_list PySem.F.slot_list_append PySem.F.type_list_append mt_app (pv 3) (pa_cons (pe_slice (r := rSlW) sl_w (pe_cal c_law_word hr (pa_cons (pe_cal c_law_mixed hr (pa_cons (pe_cal c_law_at hr (pa_cons (pv 0) (pa_cons (pe_op op_add (pe_op op_add (pv 1) pe_int) (pe_op op_mod (pv 4) pe_int)) pa_nil))) (pa_cons (pv 4) pa_nil))) (pa_cons (pv 2) pa_nil))) po_none (po_some pe_int)) pa_nil)))))
      (pss_cons (ps_set (i := 5) nd rfl (.inl rfl) (pe_op op_catl (pe_lst (pa_cons (pe_ix (r := rIxLn K) ix_l (pv 3) pe_int (fun _ _ => rfl)) pa_nil)) (pe_lc (own := [("_law_k", 4)]) (g := gName 4) (tt := tYes) rfl nd (pi_range2 (by rfl) B.range (pa_cons pe_int (pa_cons (pe_callB (r := rLenL K) call_lenl (by rfl) B.len PySem.boot_len (pa_cons (pv 3) pa_nil)) pa_nil))) (blkOk_by (own := [("_law_k", 4)]) (N := ["_law_script", "_law_first", "_law_signs_here", "_law_links", "_law_k", "_law_words_here", "_law_turn"]) (sc := defScope s_law_chain) (by decide +kernel)) (fun _ _ _ _ _ => (pg_name (i := 4) nd rfl (.inl rfl))) (fun _ _ _ _ _ => pts_nil) (fun _ _ _ _ _ => (pe_op op_addw (pe_ix (r := rIxLn K) ix_l (pv 3) (pe_op op_sub (pv 4) pe_int) (fun _ _ => rfl)) (pe_ix (r := rIxLn K) ix_l (pv 3) (pv 4) (fun _ _ => rfl)))))))
      (pss_cons (ps_if (pt_cmpR op_eqn (pe_op op_mod (pe_op op_fdiv (pe_cal c_law_at hr (pa_cons (pv 0) (pa_cons (pv 1) pa_nil))) pe_int) pe_int) pe_int (nomark _))
        (pss_one (ps_expr (pe_bm PySem.F.plainAttrs_list PySem.F.slot_list_append PySem.F.type_list_append mt_app (pv 5) (pa_cons (pe_ix (r := rIxLm K) ix_lm (pv 3) (pe_un un_neg pe_int) (fun _ _ => rfl)) pa_nil))))
        pss_nil)
      (pss_cons (ps_set (i := 6) nd rfl (.inl rfl) (pe_op op_mod (pe_cal c_law_at hr (pa_cons (pv 0) (pa_cons (pe_op op_add (pv 1) pe_int) pa_nil))) (pe_callB (r := rLenL K) call_lenl (by rfl) B.len PySem.boot_len (pa_cons (pv 5) pa_nil))))
      (pss_one (ps_ret (pe_op op_catl (pe_slice (r := rSlLn K) sl_l (pv 5) (po_some (pv 6)) po_none) (pe_slice (r := rSlLn K) sl_l (pv 5) po_none (po_some (pv 6))))))))))), ?_⟩
    try dsimp only [cxOf, Cx.nox, Cx.wish]
    have c0 := Int.emod_nonneg (cell ns k / 40) (show (7 : Int) ≠ 0 by decide)
    have c1 := Int.emod_lt_of_pos (cell ns k / 40) (show (0 : Int) < 7 by decide)
    fail "gi"
    rename_i l hl
    refine for_range (fun i σ' H' => ∃ (ws : List Wd) (x4 : Option V), σ' = [some (.ref p), some (.int k), some (sv g), some (.ref l), x4, none, none] ∧ Same H H' ∧ H' l = some (.lst (ws.map sv)) ∧ ws.length = i ∧ ∀ w ∈ ws, Abc w ∧ 1 ≤ w.length ∧ w.length ≤ 5) ⟨[], none, rfl, new hl, upd_same, rfl, fun _ h => nomatch h⟩ ?_ ?_
    · rintro i σ' H' hi ⟨ws, x4, rfl, s1, hw, hn, hws⟩
      fail "gi"
      intro u hu
      have u1 := hu.1
      have u2 := hu.2.1
      have hm : (ws.map sv).length < 100000 := by rw [List.length_map]; omega
      fail "gi"
      refine ⟨ws ++ [cutW u none (some 5)], _, rfl, by fail "same", ?_, by rw [List.length_append]; simp [hn], ?_⟩
      · rw [upd_same, List.map_append]; rfl
      · intro w hw'
        rcases List.mem_append.mp hw' with h | h
        · exact hws w h
        · rw [List.mem_singleton.mp h, cutW_toI u (by decide)]
          exact ⟨hu.abc.take _, by rw [List.length_take]; omega, by rw [List.length_take]; omega⟩
    · rintro σ' H' ⟨ws, x4, rfl, s1, hw, hn, hws⟩
      have hn2 : ws.length = (2 + cell ns k / 40 % 7).toNat := hn
      have hlm : (ws.map sv).length = ws.length := List.length_map _
      obtain ⟨w0, r, rfl⟩ : ∃ w0 r, ws = w0 :: r := by
        cases ws with
        | nil => rw [List.length_nil] at hn2; omega
        | cons a b => exact ⟨a, b, rfl⟩
      rw [List.length_cons] at hn2
      fail "gi"
      rename_i p1 hp1 D hD
      have hget : ∀ i : Nat, i < r.length + 1 → ((w0 :: r).map sv)[i]? = some (sv ((w0 :: r).getD i [])) := fun i h => by
        rw [List.getElem?_map, List.getD_eq_getElem?_getD, List.getElem?_eq_getElem (by rw [List.length_cons]; omega)]; rfl
      have hgw : ∀ i : Nat, i < r.length + 1 → Abc ((w0 :: r).getD i []) ∧ 1 ≤ ((w0 :: r).getD i []).length ∧ ((w0 :: r).getD i []).length ≤ 5 := fun i h => by
        rw [List.getD_eq_getElem?_getD, List.getElem?_eq_getElem (by rw [List.length_cons]; omega)]
        exact hws _ (List.getElem_mem _)
      have hnn : ((((w0 :: r).map sv).length : Int) - 1).toNat = r.length := by simp
      refine lc_rng (lo := 1) (n := ((((w0 :: r).map sv).length : Int) - 1).toNat) (j := 4) (fun i => sv ((w0 :: r).getD i [] ++ (w0 :: r).getD (i + 1) [])) hD (by omega) (fun i hi H1 e1 Q1 q1 => ?_) (fun H1 e1 h1 => ?_)
      · have g1 : ((w0 :: r).map sv)[((1 + (i : Int)) - 1).toNat]? = some (sv ((w0 :: r).getD i [])) := by
          rw [show ((1 + (i : Int)) - 1).toNat = i by omega]; exact hget i (by omega)
        have g2 : ((w0 :: r).map sv)[(1 + (i : Int)).toNat]? = some (sv ((w0 :: r).getD (i + 1) [])) := by
          rw [show (1 + (i : Int)).toNat = i + 1 by omega]; exact hget _ (by omega)
        have b1 := (hgw i (by omega)).2.2
        have b2 := (hgw (i + 1) (by omega)).2.2
        fail "go"
        exact q1 _ (Same.refl _)
      · fail "go"
        rw [hnn] at h1 ⊢
        refine And.intro (by simp; omega) fun p2 hp2 => ?_
        have eW : [sv w0] ++ (List.range r.length).map (fun i => sv ((w0 :: r).getD i [] ++ (w0 :: r).getD (i + 1) [])) = (w0 :: (List.range r.length).map (fun i => (w0 :: r).getD i [] ++ (w0 :: r).getD (i + 1) [])).map sv := by
          rw [List.map_cons, List.map_map]; rfl
        rw [eW]
        have hW : ∀ x ∈ (w0 :: (List.range r.length).map (fun i => (w0 :: r).getD i [] ++ (w0 :: r).getD (i + 1) [])), Word x := fun x hx => by
          rcases List.mem_cons.mp hx with rfl | hx
          · have := hws x List.mem_cons_self
            exact ⟨this.2.1, by omega, this.1⟩
          · obtain ⟨i, hi, rfl⟩ := List.mem_map.mp hx
            rw [List.mem_range] at hi
            have a1 := hgw i (by omega)
            have a2 := hgw (i + 1) (by omega)
            exact ⟨by rw [List.length_append]; omega, by rw [List.length_append]; omega, a1.1.app a2.1⟩
        have hWl : (w0 :: (List.range r.length).map (fun i => (w0 :: r).getD i [] ++ (w0 :: r).getD (i + 1) [])).length = r.length + 1 := by simp
        have hL1 : H1 l = some (HO.lst ((w0 :: r).map sv)) := same_at e1 (new_at hp1 hw)
        have hlp : l ≠ p2 := fun z => by rw [z] at hL1; rw [hL1] at hp2; cases hp2
        generalize (w0 :: (List.range r.length).map (fun i => (w0 :: r).getD i [] ++ (w0 :: r).getD (i + 1) [])) = W at *
        have last : ∃ v, ((w0 :: r).map sv).getLast? = some (sv v) ∧ Word v := by
          refine ⟨(w0 :: r).getLast (List.cons_ne_nil _ _), ?_, ?_⟩
          · rw [List.getLast?_map, List.getLast?_eq_some_getLast (List.cons_ne_nil _ _)]; rfl
          · have := hws _ (List.getLast_mem (List.cons_ne_nil w0 r))
            exact ⟨this.2.1, by omega, this.1⟩
        obtain ⟨v, hv, wv⟩ := last
        have wl : (W.map sv).length < 100000 := by rw [List.length_map]; omega
        fail "gi"
        refine itd (fun e => ?_) fun e => ?_
        · fail "gi"
          rw [show W.map sv ++ [sv v] = (W ++ [v]).map sv by rw [List.map_append]; rfl]
          have hW2 : ∀ x ∈ W ++ [v], Word x := fun x hx => by
            rcases List.mem_append.mp hx with h | h
            · exact hW x h
            · rw [List.mem_singleton.mp h]; exact wv
          have wl2 : (W ++ [v]).length = r.length + 2 := by rw [List.length_append, hWl]; rfl
          generalize W ++ [v] = W2 at *
          have wl3 : 0 < (W2.map sv).length := by rw [List.length_map]; omega
          fail "gi"
          have i0 := Int.emod_nonneg (cell ns (k + 2)) (show ((W2.map sv).length : Int) ≠ 0 by omega)
          refine And.intro (by rw [rot_len W2 i0]; omega) fun p5 hp5 => ?_
          rw [rot W2 i0]
          refine q _ ?_ ?_ (fun w hw => hW2 w (rot_mem hw)) _ _ (by fail "same") (by fail "fr") upd_same
          · intro z
            have := congrArg List.length z
            rw [List.length_append, List.length_drop, List.length_take, List.length_nil] at this
            omega
          · rw [List.length_append, List.length_drop, List.length_take]; omega
        · have wl3 : 0 < (W.map sv).length := by rw [List.length_map]; omega
          fail "gi"
          have i0 := Int.emod_nonneg (cell ns (k + 2)) (show ((W.map sv).length : Int) ≠ 0 by omega)
          refine And.intro (by rw [rot_len W i0]; omega) fun p5 hp5 => ?_
          rw [rot W i0]
          refine q _ ?_ ?_ (fun w hw => hW w (rot_mem hw)) _ _ (by fail "same") (by fail "fr") upd_same
          · intro z
            have := congrArg List.length z
            rw [List.length_append, List.length_drop, List.length_take, List.length_nil] at this
            omega
          · rw [List.length_append, List.length_drop, List.length_take]; omega

set_option hygiene false in
local macro_rules | `(tactic| fail "w1") => `(tactic| (
  refine itn (fun hx => ?_) fun hx => ?_
  · fail "gi"
    refine ⟨ws ++ [y], _, _, _, rfl, by fail "same", by rw [upd_same, List.map_append]; rfl, List.nodup_append.mpr ⟨a3, by simp, fun a ha b hb => by rw [List.mem_singleton.mp hb]; exact fun z => hx (z ▸ ha)⟩, by rw [List.length_append]; exact Nat.succ_le_succ a4, ?_⟩
    intro w hw
    rcases List.mem_append.mp hw with h | h
    · exact a5 w h
    · rw [List.mem_singleton.mp h]; exact hy
  · exact ⟨ws, _, _, _, rfl, by fail "same", by fail "look", a3, by omega, a5⟩))
abbrev s_law_words : Stmt := top 33
theorem sc_law_words : FnScope ["_law_script", "_law_first", "_law_cell", "_law_signs_here", "_law_words_here", "_law_word_here", "_law_k", "_law_one"] ["_law_script", "_law_first"] (defScope s_law_words) := ⟨rfl, rfl, rfl, by decide +kernel, rfl, by decide +kernel, by decide +kernel⟩
def sp_law_words (K : PySem.W.Frag) : Sp := fun vs H Q _ => ∃ (p : Addr) (k : Int), vs = [.ref p, .int k] ∧ ∃ ns : List Int, SqL K H p (ns.map V.int) ∧ 0 ≤ k ∧ ∀ ws : List Wd, Code ws → RetL H Q (ws.map sv)
theorem ok_law_words (B : Bi mg) (D : Def K mg "_law_words" s_law_words) (c_law_at : Cal P w K mg base CX0 "_law_at" 1 ["_law_script", "_law_k"] (sp_law_at K)) (c_law_signs : Cal P w K mg base CX0 "_law_signs" 1 ["_law_cell"] sp_law_signs) (c_law_chain : Cal P w K mg base CX0 "_law_chain" 3 ["_law_script", "_law_first", "_law_signs_here"] (sp_law_chain K)) (c_law_mixed : Cal P w K mg base CX0 "_law_mixed" 1 ["_law_cell", "_law_k"] sp_law_mixed) (c_law_word : Cal P w K mg base CX0 "_law_word" 2 ["_law_cell", "_law_signs_here"] sp_law_word) (c_law_any_word : Cal P w K mg base CX0 "_law_any_word" 1 ["_law_cell"] sp_law_any_word) (c_law_more : Cal P w K mg base CX0 "_law_more" 3 ["_law_words_here", "_law_cell", "_law_signs_here"] sp_law_more) : Cal P w K mg base CX0 "_law_words" 4 ["_law_script", "_law_first"] (sp_law_words K) := by
  have nd := sc_law_words.nd
  refine D.cal sc_law_words (fun _ _ _ _ _ _ us hl => match us, hl with | [_, _], _ => rfl) (fun vs H Q E h => ?_) (fun f cdv A outer s H vs Q E hr h => ?_)
  · obtain ⟨_, _, rfl, _⟩ := h
    rfl
  · obtain ⟨p, k, rfl, ns, hS, hk, q⟩ := h
    refine ⟨_, PSs.nox (pss_cons (ps_set (i := 2) nd rfl (.inl rfl) (pe_cal c_law_at hr (pa_cons (pv 0) (pa_cons (pv 1) pa_nil))))
      (pss_cons (ps_set (i := 3) nd rfl (.inl rfl) (pe_cal c_law_signs hr (pa_cons (pe_cal c_law_at hr (pa_cons (pv 0) (pa_cons (pe_op op_add (pv 1) pe_int) pa_nil))) pa_nil)))
      (pss_cons (ps_set (i := 4) nd rfl (.inl rfl) (pe_lst pa_nil))
      (pss_cons (ps_if (pt_cmpR op_eqn (pe_op op_mod (pe_op op_fdiv (pv 2) pe_int) pe_int) pe_int (nomark _))
        (pss_cons (ps_for PassesOwn.never rfl (pi_list (pe_cal c_law_chain hr (pa_cons (pv 0) (pa_cons (pv 1) (pa_cons (pv 3) pa_nil))))) (pg_name (i := 5) nd rfl (.inl rfl))
          (pss_one (ps_if (pt_cmpR (r := rInW K true) op_niw (pv 5) (pv 4) (by rfl))
            (pss_one (ps_expr (pe_bm PySem.F.plainAttrs_list PySem.F.slot_list_append PySem.F.type_list_append mt_app (pv 4) (pa_cons (pv 5) pa_nil))))
            pss_nil)))
        (pss_one (ps_ret (pv 4))))
        pss_nil)
      (pss_cons (ps_for PassesOwn.never rfl (pi_range1 (by rfl) B.range (pa_cons (pe_ix (r := rIxLn K) ix_l (pe_lst (pa_cons pe_int (pa_cons pe_int (pa_cons pe_int (pa_cons pe_int (pa_cons pe_int (pa_cons pe_int (pa_cons pe_int (pa_cons pe_int (pa_cons pe_int (pa_cons pe_int pa_nil))))))))))) (pe_op op_mod (pv 2) pe_int) (fun _ _ => rfl)) pa_nil)) (pg_name (i := 6) nd rfl (.inl rfl))
        (pss_cons (ps_set (i := 7) nd rfl (.inl rfl) (pe_cal c_law_at hr (pa_cons (pv 0) (pa_cons (pe_op op_add (pe_op op_add (pv 1) pe_int) (pe_op op_mod (pv 6) pe_int)) pa_nil))))
        (pss_cons (ps_set (i := 5) nd rfl (.inl rfl) (pe_cal c_law_word hr (pa_cons (pe_cal c_law_mixed hr (pa_cons (pv 7) (pa_cons (pv 6) pa_nil))) (pa_cons (pv 3) pa_nil))))
        (pss_cons (ps_if (pt_cmpR op_eqn (pe_op op_mod (pe_op op_fdiv (pv 2) pe_int) pe_int) pe_int (nomark _))
          (pss_one (ps_set (i := 5) nd rfl (.inl rfl) (pe_cal c_law_any_word hr (pa_cons (pe_op op_add (pv 7) (pv 6)) pa_nil))))
          (pss_one (ps_if (PW.pt (pw_and (pt_cmpR (r := rNeP K) (op_nep hr.units) (pv 4) (pe_lst pa_nil) (nomark _)) (pw_and1 (pt_cmpR op_eqn (pe_op op_mod (pe_op op_fdiv (pe_cal c_law_mixed hr (pa_cons (pv 7) (pa_cons (pv 6) pa_nil))) pe_int) pe_int) pe_int (nomark _)))))
            (pss_one (ps_set (i := 5) nd rfl (.inl rfl) (pe_cal c_law_more hr (pa_cons (pv 4) (pa_cons (pe_cal c_law_mixed hr (pa_cons (pv 7) (pa_cons (pe_op op_add (pv 6) pe_int) pa_nil))) (pa_cons (pv 3) pa_nil))))))
            pss_nil)))
        (pss_one (ps_if (pt_cmpR (r := rInW K true) op_niw (pv 5) (pv 4) (by rfl))
          (pss_one (ps_expr (pe_bm PySem.F.plainAttrs_list PySem.F.slot_list_append PySem.F.type_list_append mt_app (pv 4) (pa_cons (pv 5) pa_nil))))
          pss_nil))))))
      (pss_one (ps_ret (pv 4)))))))), ?_⟩
    try dsimp only [cxOf, Cx.nox, Cx.wish]
    fail "gi"
    intro g hg hgl hA
    fail "gi"
    rename_i H1 s1 l hl
    refine itd (fun e => ?_) fun e => ?_
    · fail "gi"
      intro cs hc hcl hcw
      fail "gi"
      rename_i pc H2 s2 np hpc
      have ne : pc ≠ l := by fail "ne"
      refine for_wl (xs := cs) (j := 5) (fun pre σ' H' => ∃ (ws : List Wd) (x5 : Option V), σ' = [some (.ref p), some (.int k), some (.int (cell ns k)), some (sv g), some (.ref l), x5, none, none] ∧ Same H H' ∧ H' pc = some (.lst (cs.map sv)) ∧ H' l = some (.lst (ws.map sv)) ∧ ws.Nodup ∧ ws.length ≤ pre.length ∧ ∀ w ∈ ws, w ∈ pre) ⟨[], none, rfl, by fail "same", hpc, same_at s2 upd_same, List.nodup_nil, Nat.zero_le _, fun _ h => nomatch h⟩ ?_ ?_ ?_
      · rintro pre σ' H' ⟨ws, x5, rfl, a1, a2, a3, a4, a5, a6⟩
        exact SqL.of a2
      · rintro pre x post σ' H' ex ⟨ws, x5, rfl, a1, a2, a3, a4, a5, a6⟩
        have hxl : cs.length = pre.length + (post.length + 1) := by rw [ex, List.length_append, List.length_cons]
        have hm : (ws.map sv).length < 100000 := by rw [List.length_map]; omega
        fail "gi"
        refine itn (fun hx => ?_) fun hx => ?_
        · fail "gi"
          refine ⟨ws ++ [x], _, rfl, by fail "same", by fail "look", ?_, ?_, ?_, ?_⟩
          · rw [upd_same, List.map_append]; rfl
          · exact List.nodup_append.mpr ⟨a4, by simp, fun a ha b hb => by rw [List.mem_singleton.mp hb]; exact fun z => hx (z ▸ ha)⟩
          · rw [List.length_append, List.length_append]; exact Nat.succ_le_succ a5
          · intro w hw
            rcases List.mem_append.mp hw with h | h
            · exact List.mem_append_left _ (a6 w h)
            · exact List.mem_append_right _ h
        · exact ⟨ws, _, rfl, a1, a2, a3, a4, by rw [List.length_append]; omega, fun w hw => List.mem_append_left _ (a6 w hw)⟩
      · rintro σ' H' ⟨ws, x5, rfl, a1, a2, a3, a4, a5, a6⟩
        fail "gi"
        exact q ws ⟨a4, by omega, fun w hw => hcw w (a6 w hw)⟩ _ _ a1 (by fail "fr") a3
    · fail "gi"
      refine ex_pick (Int.emod_nonneg _ (by decide)) (Int.emod_lt_of_pos _ (by decide)) fun v hv => ?_
      obtain ⟨n, rfl, hn0, hn⟩ : ∃ n : Int, v = .int n ∧ 0 ≤ n ∧ n ≤ 12 := by
        simp only [List.mem_append, List.mem_cons, List.not_mem_nil, or_false] at hv
        rcases hv with rfl | rfl | rfl | rfl | rfl | rfl | rfl | rfl | rfl | rfl <;> exact ⟨_, rfl, by decide, by decide⟩
      fail "gi"
      refine for_range (fun i σ' H' => ∃ (ws : List Wd) (x5 x6 x7 : Option V), σ' = [some (.ref p), some (.int k), some (.int (cell ns k)), some (sv g), some (.ref l), x5, x6, x7] ∧ Same H H' ∧ H' l = some (.lst (ws.map sv)) ∧ ws.Nodup ∧ ws.length ≤ i ∧ ∀ w ∈ ws, Word w) ⟨[], none, none, none, rfl, by fail "same", by fail "look", List.nodup_nil, Nat.zero_le _, fun _ h => nomatch h⟩ ?_ ?_
      · rintro i σ' H' hi ⟨ws, x5, x6, x7, rfl, a1, a2, a3, a4, a5⟩
        have hm : (ws.map sv).length < 100000 := by rw [List.length_map]; omega
        have ho := ok_strs ws
        have hoe : okD (.list []) = true := rfl
        fail "gi"
        intro y hy
        fail "gi"
        refine itd (fun e1 => ?_) fun e1 => ?_
        · fail "gi"
          intro y hy
          fail "gi"
          fail "w1"
        · fail "gi"
          rw [show (PyData.list []) = PyData.list (([] : List Wd).map sd) from rfl, eqv_strs]
          refine itn (fun e2 => ?_) fun e2 => ?_
          · fail "gi"
            refine itd (fun e3 => ?_) fun e3 => ?_
            · fail "gi"
              intro y hy
              fail "gi"
              fail "w1"
            · fail "gi"
              fail "w1"
          · fail "gi"
            fail "w1"
      · rintro σ' H' ⟨ws, x5, x6, x7, rfl, a1, a2, a3, a4, a5⟩
        fail "gi"
        exact q ws ⟨a3, by omega, a5⟩ _ _ a1 (by fail "fr") a2

/-- how many signs two texts begin with alike -/
def shr : Wd → Wd → Nat
  | a :: r, b :: t => if a = b then shr r t + 1 else 0
  | _, _ => 0
theorem shr_cons (x y : Nat) (r t : Wd) : shr (x :: r) (y :: t) = if x = y then shr r t + 1 else 0 := rfl
abbrev s_shared : Stmt := top 13
theorem sc_shared : FnScope ["text", "other", "many"] ["text", "other"] (defScope s_shared) := ⟨rfl, rfl, rfl, by decide +kernel, rfl, by decide +kernel, by decide +kernel⟩
def sp_shared : Sp := fun vs H Q _ => ∃ a b : Wd, vs = [sv a, sv b] ∧ a.length ≤ 100000 ∧ b.length ≤ 100000 ∧ Q (.int (shr a b : Nat)) H
theorem ok_shared (B : Bi mg) (D : Def K mg "shared" s_shared) : Cal P w K mg base CX0 "shared" 1 ["text", "other"] sp_shared := by
  have nd := sc_shared.nd
  refine D.cal sc_shared (fun _ _ _ _ _ _ us hl => match us, hl with | [_, _], _ => rfl) (fun vs H Q E h => ?_) (fun f cdv A outer s H vs Q E hr h => ?_)
  · obtain ⟨_, _, rfl, _⟩ := h
    rfl
  · obtain ⟨a, b, rfl, ha, hb, q⟩ := h
    refine ⟨_, PSs.nox (pss_cons (ps_set (i := 2) nd rfl (.inl rfl) pe_int)
      (pss_cons (ps_while PassesOwn.never (PW.pt (pw_and (pt_cmpR op_lt (pv 2) (pe_callB call_lenw (by rfl) B.len PySem.boot_len (pa_cons (pv 0) pa_nil)) (nomark _)) (pw_and (pt_cmpR op_lt (pv 2) (pe_callB call_lenw (by rfl) B.len PySem.boot_len (pa_cons (pv 1) pa_nil)) (nomark _)) (pw_and1 (pt_cmpR op_eqw (pe_ix ix_w (pv 0) (pv 2) (fun _ _ => rfl)) (pe_ix ix_w (pv 1) (pv 2) (fun _ _ => rfl)) (nomark _))))))
        (pss_one (ps_set (i := 2) nd rfl (.inl rfl) (pe_op op_add (pv 2) pe_int))))
      (pss_one (ps_ret (pv 2))))), ?_⟩
    try dsimp only [cxOf, Cx.nox, Cx.wish]
    refine ⟨fun m σ H' => ∃ i : Nat, σ = [some (sv a), some (sv b), some (.int i)] ∧ H' = H ∧ m = a.length - i ∧ shr a b = i + shr (a.drop i) (b.drop i), ⟨_, 0, rfl, rfl, rfl, by simp⟩, ?_⟩
    rintro m σ H' ⟨i, rfl, rfl, rfl, e⟩
    have out : shr (a.drop i) (b.drop i) = 0 → Q (.int (i : Nat)) H' := fun z => by
      rw [e, z] at q
      exact q
    fail "go"
    refine itd (fun e1 => ?_) fun e1 => ?_
    · fail "go"
      refine itd (fun e2 => ?_) fun e2 => ?_
      · have h1 : i < a.length := by omega
        have h2 : i < b.length := by omega
        have d1 : a.drop i = a[i] :: a.drop (i + 1) := (List.getElem_cons_drop h1).symm
        have d2 : b.drop i = b[i] :: b.drop (i + 1) := (List.getElem_cons_drop h2).symm
        rw [d1, d2] at e out
        have g1 : a[((i : Nat) : Int).toNat]? = some a[i] := by simp [h1]
        have g2 : b[((i : Nat) : Int).toNat]? = some b[i] := by simp [h2]
        fail "go"
        refine itd (fun e3 => ?_) fun e3 => ?_
        · refine ⟨fun σ' H2 => ∃ m', m' < a.length - i ∧ ∃ i : Nat, σ' = [some (sv a), some (sv b), some (.int i)] ∧ H2 = H' ∧ m' = a.length - i ∧ shr a b = i + shr (a.drop i) (b.drop i), fun _ _ h => h, ?_⟩
          fail "go"
          refine ⟨a.length - (i + 1), by omega, i + 1, rfl, rfl, rfl, ?_⟩
          rw [shr_cons, if_pos (by simpa using e3)] at e
          omega
        · fail "go"
          refine out ?_
          rw [shr_cons, if_neg (by simpa using e3)]
      · fail "go"
        refine out ?_
        rw [List.drop_of_length_le (l := b) (by omega)]
        cases a.drop i <;> rfl
    · fail "go"
      refine out ?_
      rw [List.drop_of_length_le (l := a) (by omega)]
      rfl

/-! ### heights, by themselves -/
def tgt (r w : Wd) : Option Wd := (step r w).map (·.1)
def wval (h : Wd → Nat) (r w : Wd) : Nat := match step r w with
  | none => shr r w
  | some (s, true) => r.length + h s
  | some (s, false) => w.length + h s
def hval (ws : List Wd) (h : Wd → Nat) (r : Wd) : Nat := most (ws.map (wval h r))
theorem wval_congr {h g : Wd → Nat} {r w : Wd} (e : ∀ s, tgt r w = some s → h s = g s) : wval h r w = wval g r w := by
  unfold wval
  unfold tgt at e
  cases k : step r w with
  | none => rfl
  | some p =>
    obtain ⟨s, b⟩ := p
    rw [k] at e
    have := e s rfl
    cases b
    · show w.length + h s = w.length + g s; omega
    · show r.length + h s = r.length + g s; omega
theorem hval_congr {ws : List Wd} {h g : Wd → Nat} {r : Wd} (e : ∀ w ∈ ws, ∀ s, tgt r w = some s → h s = g s) : hval ws h r = hval ws g r :=
  congrArg most (List.map_congr_left fun w hw => wval_congr (e w hw))
inductive Hgt (ws : List Wd) : Wd → Prop
  | mk {r : Wd} : (∀ w ∈ ws, ∀ s, tgt r w = some s → Hgt ws s) → Hgt ws r
def isT (q : Wd) (p : Wd × Wd) : Bool := decide (tgt p.1 p.2 = some q)
/-- how many of the pairs lead from r to what is not in P -/
def out (PW : List (Wd × Wd)) (P : List Wd) (r : Wd) : Nat := PW.countP fun p => decide (p.1 = r) && match tgt p.1 p.2 with
  | some s => !decide (s ∈ P)
  | none => false
/-- those from which the pairs lead to q -/
def into (PW : List (Wd × Wd)) (q : Wd) : List Wd := (PW.filter (isT q)).map (·.1)
theorem into_count (r q : Wd) : ∀ PW : List (Wd × Wd), (into PW q).count r = PW.countP fun p => decide (p.1 = r) && isT q p
  | [] => rfl
  | p :: PW => by
    have ih := into_count r q PW
    unfold into at ih ⊢
    rw [List.countP_cons, ← ih, List.filter_cons]
    by_cases h : isT q p = true
    · rw [if_pos h, List.map_cons, List.count_cons, h, Bool.and_true]
      congr 1
      by_cases e : p.1 = r
      · rw [if_pos (by rw [e]; exact beq_self_eq_true r), if_pos (decide_eq_true e)]
      · rw [if_neg (by simpa using e), if_neg (by simpa using e)]
    · rw [if_neg h, Bool.eq_false_iff.mpr h, Bool.and_false]
      rfl
theorem out_add {q : Wd} {P : List Wd} (hq : q ∉ P) (r : Wd) (PW : List (Wd × Wd)) : out PW P r = out PW (P ++ [q]) r + (into PW q).count r := by
  rw [into_count]
  unfold out
  induction PW with
  | nil => rfl
  | cons p PW ih =>
    rw [List.countP_cons, List.countP_cons, List.countP_cons, ih]
    have one : (if (decide (p.1 = r) && match tgt p.1 p.2 with | some s => !decide (s ∈ P) | none => false) = true then 1 else 0) = (if (decide (p.1 = r) && match tgt p.1 p.2 with | some s => !decide (s ∈ P ++ [q]) | none => false) = true then 1 else 0) + (if (decide (p.1 = r) && isT q p) = true then 1 else 0) := by
      unfold isT
      by_cases e : p.1 = r
      · rw [decide_eq_true e, Bool.true_and, Bool.true_and, Bool.true_and]
        cases k : tgt p.1 p.2 with
        | none => rfl
        | some s =>
          by_cases z : s = q
          · subst z
            simp [hq]
          · by_cases y : s ∈ P
            · simp [y, z]
            · simp [y, z]
      · rw [decide_eq_false e, Bool.false_and, Bool.false_and, Bool.false_and]
        rfl
    omega
theorem out_zero {PW : List (Wd × Wd)} {P : List Wd} {r : Wd} : out PW P r = 0 ↔ ∀ p ∈ PW, p.1 = r → ∀ s, tgt p.1 p.2 = some s → s ∈ P := by
  unfold out
  rw [List.countP_eq_zero]
  constructor
  · intro h p hp e s k
    have := h p hp
    rw [k, decide_eq_true e] at this
    simpa using this
  · intro h p hp
    cases k : tgt p.1 p.2 with
    | none => simp
    | some s =>
      by_cases e : p.1 = r
      · simp [h p hp e s k]
      · simp [e]
theorem out_nil (PW : List (Wd × Wd)) (r : Wd) (p : Wd × Wd) : out (PW ++ [p]) [] r = out PW [] r + if p.1 = r ∧ (tgt p.1 p.2).isSome = true then 1 else 0 := by
  unfold out
  rw [List.countP_append, List.countP_singleton]
  congr 1
  cases k : tgt p.1 p.2 with
  | none => simp
  | some s =>
    by_cases e : p.1 = r
    · simp [e]
    · simp [e]
theorem into_snoc (PW : List (Wd × Wd)) (q : Wd) (p : Wd × Wd) : into (PW ++ [p]) q = into PW q ++ if tgt p.1 p.2 = some q then [p.1] else [] := by
  unfold into isT
  rw [List.filter_append, List.map_append]
  congr 1
  by_cases h : tgt p.1 p.2 = some q
  · simp [h]
  · simp [h]
/-- heights that are right at P -/
structure Hts (ws R P : List Wd) (h : Wd → Nat) : Prop where
  nd : P.Nodup
  iff : ∀ r, r ∈ P ↔ r ∈ R ∧ Hgt ws r
  val : ∀ r ∈ P, h r = hval ws h r
theorem Hts.uniq {ws R R' P P' : List Wd} {h g : Wd → Nat} (a : Hts ws R P h) (b : Hts ws R' P' g) (cl : ∀ r ∈ R, ∀ w ∈ ws, ∀ s, tgt r w = some s → s ∈ R) (cl' : ∀ r ∈ R', ∀ w ∈ ws, ∀ s, tgt r w = some s → s ∈ R') : ∀ r, Hgt ws r → r ∈ R → r ∈ R' → h r = g r := by
  intro r hr
  induction hr with
  | @mk r hs ih =>
    intro h1 h2
    rw [a.val r ((a.iff r).mpr ⟨h1, .mk hs⟩), b.val r ((b.iff r).mpr ⟨h2, .mk hs⟩)]
    exact hval_congr fun w hw s k => ih w hw s k (cl r h1 w hw s k) (cl' r h2 w hw s k)

abbrev s_worth : Stmt := top 20
theorem sc_worth : FnScope ["rest", "word", "found", "step"] ["rest", "word", "found"] (defScope s_worth) := ⟨rfl, rfl, rfl, by decide +kernel, rfl, by decide +kernel, by decide +kernel⟩
def sp_worth : Sp := fun vs H Q _ => ∃ (r w : Wd) (f : Addr), vs = [sv r, sv w, .ref f] ∧ r.length ≤ 1000 ∧ w.length ≤ 1000 ∧ ∃ fk h, Rd H f (.dK fk) ∧ (∀ s, tgt r w = some s → valV fk (.inr (S s)) = some (.int (h s : Nat))) ∧ Ret H Q (.int (wval h r w : Nat))
theorem ok_worth (B : Bi mg) (D : Def K mg "worth" s_worth) (c_stepped : Cal P w K mg base CX0 "stepped" 2 ["rest", "word"] sp_stepped) (c_shared : Cal P w K mg base CX0 "shared" 1 ["text", "other"] sp_shared) : Cal P w K mg base CX0 "worth" 3 ["rest", "word", "found"] sp_worth := by
  have nd := sc_worth.nd
  refine D.cal sc_worth (fun _ _ _ _ _ _ us hl => match us, hl with | [_, _, _], _ => rfl) (fun vs H Q E h => ?_) (fun f cdv A outer s H vs Q E hr h => ?_)
  · obtain ⟨_, _, _, rfl, _⟩ := h
    rfl
  · obtain ⟨r, w', f', rfl, hr1, hw, fk, h, hf, ht, q⟩ := h
    refine ⟨_, PSs.nox (pss_cons (ps_set (i := 3) nd rfl (.inl rfl) (pe_cal c_stepped hr (pa_cons (pv 0) (pa_cons (pv 1) pa_nil))))
      (pss_cons (ps_if (pt_cmpR op_isN (pv 3) pe_non (nomark _))
        (pss_one (ps_ret (pe_cal c_shared hr (pa_cons (pv 0) (pa_cons (pv 1) pa_nil)))))
        pss_nil)
      (pss_cons (ps_if (pt_val (pe_ix (r := rIxTn K) ix_t (pv 3) pe_int (fun _ _ => rfl)))
        (pss_one (ps_ret (pe_op op_add (pe_callB call_lenw (by rfl) B.len PySem.boot_len (pa_cons (pv 0) pa_nil)) (pe_dgetN (hu_of hr) (pv 2) (pe_ix (r := rIxTn K) ix_t (pv 3) pe_int (fun _ _ => rfl)) (fun _ _ => rfl)))))
        pss_nil)
      (pss_one (ps_ret (pe_op op_add (pe_callB call_lenw (by rfl) B.len PySem.boot_len (pa_cons (pv 1) pa_nil)) (pe_dgetN (hu_of hr) (pv 2) (pe_ix (r := rIxTn K) ix_t (pv 3) pe_int (fun _ _ => rfl)) (fun _ _ => rfl)))))))), ?_⟩
    try dsimp only [cxOf, Cx.nox, Cx.wish]
    have e0 : step r w' = none → wval h r w' = shr r w' := fun e => by unfold wval; rw [e]
    have e1 : ∀ s, step r w' = some (s, true) → wval h r w' = r.length + h s := fun s e => by unfold wval; rw [e]
    have e2 : ∀ s, step r w' = some (s, false) → wval h r w' = w'.length + h s := fun s e => by unfold wval; rw [e]
    have et : ∀ s k, step r w' = some (s, k) → valV fk (.inr (S s)) = some (.int (h s : Nat)) := fun s k e => ht s (by unfold tgt; rw [e]; rfl)
    rcases hf with hf | ⟨o, hf⟩
    all_goals
      fail "gi"
      refine ⟨fun e => ?_, fun s k e => ?_⟩
      · rw [e0 e] at q
        fail "gi"
        exact q _ (by fail "same")
      · have lv := et s k e
        cases k with
        | true =>
          rw [e1 s e] at q
          fail "gi"
          exact q _ (by fail "same")
        | false =>
          rw [e2 s e] at q
          fail "gi"
          exact q _ (by fail "same")
def cntS (PW : List (Wd × Wd)) (r : Wd) : Nat := out PW [] r
theorem key_mem {ks : List Wd} {r : Wd} : (.inr (S r) : Key) ∈ (ks.map fun a => (.inr (S a) : Key)) ↔ r ∈ ks := by
  rw [List.mem_map]
  exact ⟨fun ⟨a, h1, h2⟩ => (inrS.mp h2) ▸ h1, fun h => ⟨r, h, rfl⟩⟩
theorem keys_len2 {ms : List (Key × V)} {ks : List Wd} (h : ms.map (·.1) = ks.map fun a => (.inr (S a) : Key)) : ms.length = ks.length := by
  have := congrArg List.length h
  rwa [List.length_map, List.length_map] at this
theorem put_new {ms : List (Key × V)} {ks : List Wd} (h : ms.map (·.1) = ks.map fun a => (.inr (S a) : Key)) {r : Wd} (hr : r ∉ ks) (v : V) : (putK ms (.inr (S r)) v).map (·.1) = (ks ++ [r]).map fun a => (.inr (S a) : Key) := by
  have kp := keys_putK ms (.inr (S r)) v
  rw [h] at kp
  rw [kp.2 (fun z => hr (key_mem.mp z)), List.map_append]; rfl
theorem put_old {ms : List (Key × V)} {ks : List Wd} (h : ms.map (·.1) = ks.map fun a => (.inr (S a) : Key)) {r : Wd} (hr : r ∈ ks) (v : V) : (putK ms (.inr (S r)) v).map (·.1) = ks.map fun a => (.inr (S a) : Key) := by
  have kp := keys_putK ms (.inr (S r)) v
  rw [h] at kp
  exact kp.1 (key_mem.mpr hr)
theorem valS_put (ms : List (Key × V)) (r s : Wd) (v : V) : valV (putK ms (.inr (S r)) v) (.inr (S s)) = if s = r then some v else valV ms (.inr (S s)) := by
  rw [valV_put]
  by_cases h : s = r
  · rw [if_pos (inrS.mpr h), if_pos h]
  · rw [if_neg (fun z => h (inrS.mp z)), if_neg h]
abbrev s_webs_of : Stmt := top 21
theorem sc_webs_of : FnScope ["words", "rests", "many", "behind", "rest", "word", "step"] ["words", "rests"] (defScope s_webs_of) := ⟨rfl, rfl, rfl, by decide +kernel, rfl, by decide +kernel, by decide +kernel⟩
def sp_webs_of : Sp := fun vs H Q _ => ∃ p d : Addr, vs = [.ref p, .ref d] ∧ ∃ (ws R : List Wd) (kvs : List (Key × V)), H p = some (.lst (ws.map sv)) ∧ H d = some (.dK kvs) ∧ kvs.map (·.1) = R.map (fun a => (.inr (S a) : Key)) ∧ R.Nodup ∧ R.length ≤ 132 ∧ Code ws ∧ (∀ r ∈ R, r.length ≤ 10) ∧ (∀ r ∈ R, ∀ w ∈ ws, ∀ s, tgt r w = some s → s ∈ R) ∧
  ∀ (PW : List (Wd × Wd)) (af : Wd → Addr) (mk bk : List (Key × V)) (m b t : Addr) (H' : Hp), Same H H' → H m = none → H b = none → H t = none → H' t = some (.tup [.ref m, .ref b]) → H' m = some (.dK mk) → H' b = some (.dK bk) → mk.map (·.1) = R.map (fun a => (.inr (S a) : Key)) → (∀ r ∈ R, valV mk (.inr (S r)) = some (.int (out PW [] r : Nat))) →
    (∀ r ∈ R, valV bk (.inr (S r)) = some (.ref (af r)) ∧ H' (af r) = some (.lst ((into PW r).map sv))) → (∀ q ∈ PW, q.1 ∈ R ∧ q.2 ∈ ws) → (∀ r ∈ R, ∀ w ∈ ws, (r, w) ∈ PW) → PW.length ≤ 2000 → Q (.ref t) H'
theorem ok_webs_of (B : Bi mg) (D : Def K mg "webs_of" s_webs_of) (c_stepped : Cal P w K mg base CX0 "stepped" 2 ["rest", "word"] sp_stepped) : Cal P w K mg base CX0 "webs_of" 3 ["words", "rests"] sp_webs_of := by
  have nd := sc_webs_of.nd
  refine D.cal sc_webs_of (fun _ _ _ _ _ _ us hl => match us, hl with | [_, _], _ => rfl) (fun vs H Q E h => ?_) (fun f cdv A outer s H vs Q E hr h => ?_)
  · obtain ⟨_, _, rfl, _⟩ := h
    rfl
  · obtain ⟨p, d, rfl, ws, R, kvs, hp, hd, hk, ndR, rl, c, r10, cl, q⟩ := h
    refine ⟨_, PSs.nox (pss_cons (ps_set (i := 2) nd rfl (.inl rfl) pe_dnewK)
      (pss_cons (ps_set (i := 3) nd rfl (.inl rfl) pe_dnewK)
      (pss_cons (ps_lock (ps_for PassesOwn.never rfl (pi_keys (pv 1)) (pg_name (i := 4) nd rfl (.inl rfl))
        (pss_cons (ps_dputN (hu_of hr) (pv 2) (pv 4) pe_int rfl)
        (pss_one (ps_dputN (hu_of hr) (pv 3) (pv 4) (pe_lst pa_nil) rfl)))))
      (pss_cons (ps_lock (ps_for PassesOwn.never rfl (pi_keys (pv 1)) (pg_name (i := 4) nd rfl (.inl rfl))
        (pss_one (ps_for PassesOwn.never rfl (pi_list (pv 0)) (pg_name (i := 5) nd rfl (.inl rfl))
          (pss_cons (ps_set (i := 6) nd rfl (.inl rfl) (pe_cal c_stepped hr (pa_cons (pv 4) (pa_cons (pv 5) pa_nil))))
          (pss_one (ps_if (pt_cmpR op_notN (pv 6) pe_non (nomark _))
            (pss_cons (ps_dputN (hu_of hr) (pv 2) (pv 4) (pe_op op_add (pe_dgetN (hu_of hr) (pv 2) (pv 4) (fun _ _ => rfl)) pe_int) rfl)
            (pss_one (ps_expr (pe_bm PySem.F.plainAttrs_list PySem.F.slot_list_append PySem.F.type_list_append mt_app (pe_dgetN (hu_of hr) (pv 3) (pe_ix (r := rIxTn K) ix_t (pv 6) pe_int (fun _ _ => rfl)) (fun _ _ => rfl)) (pa_cons (pv 4) pa_nil)))))
            pss_nil)))))))
      (pss_one (ps_ret (pe_tup (pa_cons (pv 2) (pa_cons (pv 3) pa_nil))))))))), ?_⟩
    try dsimp only [cxOf, Cx.nox, Cx.wish]
    have pd : p ≠ d := fun z => by rw [z, hd] at hp; cases hp
    fail "gi"
    rename_i m nm b nb
    have nb0 : H b = none := (new nm).free nb
    have mb : m ≠ b := (ne_free nb (L2.upd_same : L2.upd H m (.dK []) m = _)).symm
    refine ⟨d, .dK kvs, (by fail "look"), trivial, fun od => ?_⟩
    obtain ⟨H0, s0, k1, k2, d0, back⟩ := lock_base (H' := L2.upd (L2.upd H m (.dK [])) b (.dK [])) (.frz od (.dK kvs)) hd (by fail "same")
    have m0 := k2 _ nm
    have b0 := k2 _ nb0
    have hm1 : L2.upd (L2.upd (L2.upd H m (.dK [])) b (.dK [])) d (.frz od (.dK kvs)) m = some (.dK []) := by
      rw [upd_ne (ne_free nm hd)]; fail "look"
    have hb1 : L2.upd (L2.upd (L2.upd H m (.dK [])) b (.dK [])) d (.frz od (.dK kvs)) b = some (.dK []) := by
      rw [upd_ne (ne_free nb0 hd)]; fail "look"
    revert s0 hm1 hb1
    generalize L2.upd (L2.upd (L2.upd H m (.dK [])) b (.dK [])) d (.frz od (.dK kvs)) = H1
    intro s0 hm1 hb1
    have d1 := s0 _ _ d0
    fail "gi"
    refine keys_in (od := od) (j := 4) hk d1 (fun pre σ' H' => ∃ (y : Option V) (mk bk : List (Key × V)) (af : Wd → Addr), σ' = [some (.ref p), some (.ref d), some (.ref m), some (.ref b), y, none, none] ∧ Same H0 H' ∧ H' m = some (.dK mk) ∧ H' b = some (.dK bk) ∧ mk.map (·.1) = pre.map (fun a => (.inr (S a) : Key)) ∧ bk.map (·.1) = pre.map (fun a => (.inr (S a) : Key)) ∧
      (∀ r ∈ pre, valV mk (.inr (S r)) = some (.int 0)) ∧ (∀ r ∈ pre, valV bk (.inr (S r)) = some (.ref (af r)) ∧ H' (af r) = some (.lst []) ∧ H0 (af r) = none) ∧ ∀ r ∈ pre, ∀ s ∈ pre, af r = af s → r = s)
      ⟨_, [], [], fun _ => 0, rfl, s0, hm1, hb1, rfl, rfl, (fun _ h => by cases h), (fun _ h => by cases h), fun _ h => by cases h⟩ ?_ ?_ ?_
    · rintro pre σ' H' ⟨y, mk, bk, af, rfl, a1, _⟩
      exact a1 _ _ d0
    · rintro pre x post σ' H' ex ⟨y, mk, bk, af, rfl, a1, a2, a3, a4, a5, a6, a7, a8⟩
      have xp : x ∉ pre := fun z => by
        rw [ex] at ndR
        exact (List.nodup_append.mp ndR).2.2 x z x List.mem_cons_self rfl
      have pl : pre.length + 1 ≤ R.length := by rw [ex, List.length_append, List.length_cons]; omega
      have ml : mk.length < 100000 := by rw [keys_len2 a4]; omega
      have bl : bk.length < 100000 := by rw [keys_len2 a5]; omega
      have bm : b ≠ m := mb.symm
      fail "gi"
      rename_i a na
      have na0 : H' a = none := by
        rw [upd_ne (fun z => by rw [z, L2.upd_same] at na; cases na)] at na; exact na
      have am : a ≠ m := fun z => by rw [z, a2] at na0; cases na0
      have ab : a ≠ b := fun z => by rw [z, a3] at na0; cases na0
      fail "gi"
      refine ⟨_, putK mk (.inr (S x)) (.int 0), putK bk (.inr (S x)) (.ref a), fun r => if r = x then a else af r, rfl, ?_, ?_, L2.upd_same, put_new a4 xp _, put_new a5 xp _, fun r hr => ?_, fun r hr => ?_, fun r hr s hs e => ?_⟩
      · exact mutd ((mutd a1 m0).trans (new na)) b0
      · rw [upd_ne mb, upd_ne am.symm]; exact L2.upd_same
      · rw [valS_put]
        by_cases z : r = x
        · rw [if_pos z]
        · rw [if_neg z]
          rcases List.mem_append.mp hr with h | h
          · exact a6 r h
          · exact absurd (List.mem_singleton.mp h) z
      · rw [valS_put]
        dsimp only
        by_cases z : r = x
        · rw [if_pos z, if_pos z]
          exact ⟨rfl, by rw [upd_ne ab]; exact L2.upd_same, a1.free na0⟩
        · rw [if_neg z, if_neg z]
          rcases List.mem_append.mp hr with h | h
          · obtain ⟨h1, h2, h3⟩ := a7 r h
            refine ⟨h1, ?_, h3⟩
            rw [upd_ne (fun z => by rw [z, a3] at h2; cases h2), upd_ne (fun z => by rw [z, na0] at h2; cases h2), upd_ne (fun z => by rw [z, a2] at h2; cases h2)]
            exact h2
          · exact absurd (List.mem_singleton.mp h) z
      · dsimp only at e
        by_cases z : r = x
        · by_cases y : s = x
          · rw [z, y]
          · rw [if_pos z, if_neg y] at e
            rcases List.mem_append.mp hs with h | h
            · have h2 := (a7 s h).2.1
              rw [← e, na0] at h2; cases h2
            · exact absurd (List.mem_singleton.mp h) y
        · rw [if_neg z] at e
          rcases List.mem_append.mp hr with h | h
          · by_cases y : s = x
            · rw [if_pos y] at e
              have h2 := (a7 r h).2.1
              rw [e, na0] at h2; cases h2
            · rw [if_neg y] at e
              rcases List.mem_append.mp hs with h' | h'
              · exact a8 r h s h' e
              · exact absurd (List.mem_singleton.mp h') y
          · exact absurd (List.mem_singleton.mp h) z
    · rintro σ' H' ⟨y, mk, bk, af, rfl, a1, a2, a3, a4, a5, a6, a7, a8⟩
      have dd := a1 _ _ d0
      refine ⟨dd, ?_⟩
      have s4 := back _ a1
      have hm4 : L2.upd H' d (.dK kvs) m = some (.dK mk) := by rw [upd_ne (ne_free nm hd)]; exact a2
      have hb4 : L2.upd H' d (.dK kvs) b = some (.dK bk) := by rw [upd_ne (ne_free nb0 hd)]; exact a3
      have ha4 : ∀ r ∈ R, L2.upd H' d (.dK kvs) (af r) = some (.lst []) ∧ H (af r) = none := fun r hr => by
        obtain ⟨_, h2, h3⟩ := a7 r hr
        refine ⟨by rw [upd_ne (fun z => by rw [z, dd] at h2; cases h2)]; exact h2, ?_⟩
        cases e : H (af r) with
        | none => rfl
        | some o =>
          have := k1 (af r) o (fun z => by rw [z, dd] at h2; cases h2) e
          rw [h3] at this; cases this
      have hd4 : L2.upd H' d (.dK kvs) d = some (.dK kvs) := L2.upd_same
      generalize L2.upd H' d (.dK kvs) = H4 at *
      clear s0 hm1 hb1 d1 m0 b0 back k1 k2 d0 dd a1 a2 a3
      fail "gi"
      refine ⟨d, .dK kvs, hd4, trivial, fun od => ?_⟩
      obtain ⟨H0, s0, k1, k2, d0, back⟩ := lock_base (.frz od (.dK kvs)) hd s4
      have m0 := k2 _ nm
      have b0 := k2 _ nb0
      have p0 := k1 _ _ pd hp
      have hm1 : L2.upd H4 d (.frz od (.dK kvs)) m = some (.dK mk) := by rw [upd_ne (ne_free nm hd)]; exact hm4
      have hb1 : L2.upd H4 d (.frz od (.dK kvs)) b = some (.dK bk) := by rw [upd_ne (ne_free nb0 hd)]; exact hb4
      have ha1 : ∀ r ∈ R, L2.upd H4 d (.frz od (.dK kvs)) (af r) = some (.lst []) := fun r hr => by
        rw [upd_ne (ne_free (ha4 r hr).2 hd)]; exact (ha4 r hr).1
      revert s0 hm1 hb1 ha1
      generalize L2.upd H4 d (.frz od (.dK kvs)) = H1
      intro s0 hm1 hb1 ha1
      have d1 := s0 _ _ d0
      fail "gi"
      refine keys_in (od := od) (j := 4) hk d1 (fun pre σ' H' => ∃ (y5 y6 y : Option V) (mk : List (Key × V)) (PW : List (Wd × Wd)), σ' = [some (.ref p), some (.ref d), some (.ref m), some (.ref b), y, y5, y6] ∧ Same H0 H' ∧ H' m = some (.dK mk) ∧ H' b = some (.dK bk) ∧ mk.map (·.1) = R.map (fun a => (.inr (S a) : Key)) ∧
        (∀ r ∈ R, valV mk (.inr (S r)) = some (.int (out PW [] r : Nat))) ∧ (∀ r ∈ R, H' (af r) = some (.lst ((into PW r).map sv))) ∧ PW.length ≤ 12 * pre.length ∧ (∀ q ∈ PW, q.1 ∈ R ∧ q.2 ∈ ws) ∧ ∀ r ∈ pre, ∀ w ∈ ws, (r, w) ∈ PW)
        ⟨_, _, _, mk, [], rfl, s0, hm1, hb1, a4, a6, ha1, Nat.le_refl _, (fun _ h => by cases h), fun _ h => by cases h⟩ ?_ ?_ ?_
      · rintro pre σ' H' ⟨y5, y6, y, mk, PW, rfl, c1, _⟩
        exact c1 _ _ d0
      · rintro pre x post σ' H' ex ⟨y5, y6, y, mk, PW, rfl, c1, c2, c3, c4, c5, c6, c7, c8, c9⟩
        have xR : x ∈ R := by rw [ex]; exact List.mem_append_right _ List.mem_cons_self
        have pl : pre.length + 1 ≤ R.length := by rw [ex, List.length_append, List.length_cons]; omega
        have hp1 := c1 _ _ p0
        have x10 := r10 x xR
        have wle := c.le
        fail "gi"
        refine for_wl (xs := ws) (j := 5) (fun pre1 σ' H' => ∃ (y5 y6 : Option V) (mk : List (Key × V)) (PW : List (Wd × Wd)), σ' = [some (.ref p), some (.ref d), some (.ref m), some (.ref b), some (sv x), y5, y6] ∧ Same H0 H' ∧ H' m = some (.dK mk) ∧ H' b = some (.dK bk) ∧ mk.map (·.1) = R.map (fun a => (.inr (S a) : Key)) ∧
          (∀ r ∈ R, valV mk (.inr (S r)) = some (.int (out PW [] r : Nat))) ∧ (∀ r ∈ R, H' (af r) = some (.lst ((into PW r).map sv))) ∧ PW.length ≤ 12 * pre.length + pre1.length ∧ (∀ q ∈ PW, q.1 ∈ R ∧ q.2 ∈ ws) ∧ (∀ r ∈ pre, ∀ w ∈ ws, (r, w) ∈ PW) ∧ ∀ w ∈ pre1, (x, w) ∈ PW)
          ⟨_, _, mk, PW, rfl, c1, c2, c3, c4, c5, c6, c7, c8, c9, fun _ h => by cases h⟩ ?_ ?_ ?_
        · rintro pre1 σ' H' ⟨y5, y6, mk, PW, rfl, c1, _⟩
          exact SqL.of (c1 _ _ p0)
        · rintro pre1 w' post1 σ' H' ex1 ⟨y5, y6, mk, PW, rfl, c1, c2, c3, c4, c5, c6, c7, c8, c9, c10⟩
          have hw : w' ∈ ws := by rw [ex1]; exact List.mem_append_right _ List.mem_cons_self
          have wl := c.len hw
          have lp1 : pre1.length + 1 ≤ ws.length := by rw [ex1, List.length_append, List.length_cons]; omega
          have ml : mk.length < 100000 := by rw [keys_len2 c4]; omega
          have lv := c5 x xR
          have q8 : ∀ q ∈ PW ++ [(x, w')], q.1 ∈ R ∧ q.2 ∈ ws := fun q hq => by
            rcases List.mem_append.mp hq with h | h
            · exact c8 q h
            · rw [List.mem_singleton.mp h]; exact ⟨xR, hw⟩
          have q9 : ∀ r ∈ pre, ∀ w ∈ ws, (r, w) ∈ PW ++ [(x, w')] := fun r hr w hw => List.mem_append_left _ (c9 r hr w hw)
          have q10 : ∀ w ∈ pre1 ++ [w'], (x, w) ∈ PW ++ [(x, w')] := fun w hw => by
            rcases List.mem_append.mp hw with h | h
            · exact List.mem_append_left _ (c10 w h)
            · rw [List.mem_singleton.mp h]; exact List.mem_append_right _ List.mem_cons_self
          have q7 : (PW ++ [(x, w')]).length ≤ 12 * pre.length + (pre1 ++ [w']).length := by rw [List.length_append, List.length_append, List.length_singleton, List.length_singleton]; omega
          fail "gi"
          refine ⟨fun e => ?_, fun s k e => ?_⟩
          · have tn : tgt x w' = none := by unfold tgt; rw [e]; rfl
            fail "gi"
            rename_i H5 s5
            refine ⟨_, _, mk, PW ++ [(x, w')], rfl, c1.trans s5, s5 _ _ c2, s5 _ _ c3, c4, fun r hr => ?_, fun r hr => ?_, q7, q8, q9, q10⟩
            · rw [out_nil, if_neg (by rw [tn]; exact fun z => by cases z.2), Nat.add_zero]
              exact c5 r hr
            · rw [into_snoc, if_neg (by rw [tn]; exact fun z => by cases z), List.append_nil]
              exact s5 _ _ (c6 r hr)
          · have ts : tgt x w' = some s := by unfold tgt; rw [e]; rfl
            have sR := cl x xR w' hw s ts
            have ls := (a7 s sR).1
            have as := c6 s sR
            have il : ((into PW s).map sv).length < 16000000 := by
              have : (into PW s).length ≤ PW.length := by
                unfold into
                rw [List.length_map]
                exact List.length_filter_le _ _
              rw [List.length_map]; omega
            have bm : b ≠ m := mb.symm
            have am : af s ≠ m := fun z => by rw [z, c2] at as; cases as
            fail "gi"
            rename_i p6 H5 s5 n6 h6
            have pm : p6 ≠ m := ne_free n6 c2
            fail "gi"
            have asm : af s ≠ m := am
            have fin : ∀ r ∈ R, L2.upd (L2.upd H5 m (.dK (putK mk (.inr (S x)) (.int ((out PW [] x : Nat) + 1))))) (af s) (.lst ((into PW s).map sv ++ [sv x])) (af r) = some (.lst ((into (PW ++ [(x, w')]) r).map sv)) := fun r hr => by
              rw [into_snoc]
              by_cases z : r = s
              · rw [z, L2.upd_same, if_pos ts, List.map_append]; rfl
              · rw [if_neg (by rw [ts]; exact fun y => z (Option.some.inj y).symm), List.append_nil, upd_ne (fun y => z (a8 r hr s sR y)), upd_ne (fun z => by have := c6 r hr; rw [z, c2] at this; cases this)]
                exact s5 _ _ (c6 r hr)
            have bas : b ≠ af s := fun z => by rw [← z, c3] at as; cases as
            refine ⟨_, _, putK mk (.inr (S x)) (.int ((out PW [] x : Nat) + 1)), PW ++ [(x, w')], rfl, ?_, ?_, ?_, put_old c4 xR _, fun r hr => ?_, fin, q7, q8, q9, q10⟩
            · exact mutd (mutd (c1.trans s5) m0) (k2 _ (ha4 s sR).2)
            · rw [upd_ne am.symm]; exact L2.upd_same
            · rw [upd_ne bas, upd_ne bm]; exact s5 _ _ c3
            · rw [valS_put, out_nil]
              by_cases z : r = x
              · rw [if_pos z, z, if_pos ⟨rfl, by rw [ts]; rfl⟩]; rfl
              · rw [if_neg z, if_neg (fun y => z y.1.symm)]
                exact c5 r hr
        · rintro σ' H' ⟨y5, y6, mk, PW, rfl, c1, c2, c3, c4, c5, c6, c7, c8, c9, c10⟩
          fail "gi"
          refine ⟨_, _, _, mk, PW, rfl, c1, c2, c3, c4, c5, c6, by rw [List.length_append, List.length_singleton]; omega, c8, fun r hr w hw => ?_⟩
          rcases List.mem_append.mp hr with h | h
          · exact c9 r h w hw
          · rw [List.mem_singleton.mp h]; exact c10 w hw
      · rintro σ' H' ⟨y5, y6, y, mk, PW, rfl, c1, c2, c3, c4, c5, c6, c7, c8, c9⟩
        have dd := c1 _ _ d0
        refine ⟨dd, ?_⟩
        have s5 := back _ c1
        fail "gi"
        rename_i t nt
        refine q PW af mk bk m b t _ (s5.trans (new nt)) nm nb0 (s5.free nt) L2.upd_same ?_ ?_ c4 c5 (fun r hr => ⟨(a7 r hr).1, ?_⟩) c8 c9 (by omega)
        · exact new nt _ _ (by rw [upd_ne (ne_free nm hd)]; exact c2)
        · exact new nt _ _ (by rw [upd_ne (ne_free nb0 hd)]; exact c3)
        · exact new nt _ _ (by rw [upd_ne (ne_free (ha4 r hr).2 hd)]; exact c6 r hr)

abbrev s_heights_of : Stmt := top 22
theorem sc_heights_of : FnScope ["words", "rests", "many", "behind", "waiting", "found", "at", "rest", "other", "word"] ["words", "rests"] (defScope s_heights_of) := ⟨rfl, rfl, rfl, by decide +kernel, rfl, by decide +kernel, by decide +kernel⟩
def sp_heights_of : Sp := fun vs H Q _ => ∃ p d : Addr, vs = [.ref p, .ref d] ∧ ∃ (ws R : List Wd) (kvs : List (Key × V)), H p = some (.lst (ws.map sv)) ∧ H d = some (.dK kvs) ∧ kvs.map (·.1) = R.map (fun a => (.inr (S a) : Key)) ∧ R.Nodup ∧ R.length ≤ 132 ∧ Code ws ∧ (∀ r ∈ R, r.length ≤ 10) ∧ (∀ r ∈ R, ∀ w ∈ ws, ∀ s, tgt r w = some s → s ∈ R) ∧
  ∀ (P : List Wd) (h : Wd → Nat) (fk : List (Key × V)) (f : Addr) (H' : Hp), Same H H' → H f = none → H' f = some (.dK fk) → fk.map (·.1) = P.map (fun a => (.inr (S a) : Key)) → (∀ r ∈ P, valV fk (.inr (S r)) = some (.int (h r : Nat))) → Hts ws R P h → Q (.ref f) H'
theorem ok_heights_of (B : Bi mg) (D : Def K mg "heights_of" s_heights_of) (c_webs_of : Cal P w K mg base CX0 "webs_of" 3 ["words", "rests"] sp_webs_of) (c_worth : Cal P w K mg base CX0 "worth" 3 ["rest", "word", "found"] sp_worth) : Cal P w K mg base CX0 "heights_of" 4 ["words", "rests"] sp_heights_of := by
  have nd := sc_heights_of.nd
  refine D.cal sc_heights_of (fun _ _ _ _ _ _ us hl => match us, hl with | [_, _], _ => rfl) (fun vs H Q E h => ?_) (fun f cdv A outer s H vs Q E hr h => ?_)
  · obtain ⟨_, _, rfl, _⟩ := h
    rfl
  · obtain ⟨p, d, rfl, ws, R, kvs, hp, hd, hk, ndR, rl, c, r10, cl, q⟩ := h
    refine ⟨_, PSs.nox (pss_cons (ps_asg (pe_cal c_webs_of hr (pa_cons (pv 0) (pa_cons (pv 1) pa_nil))) (pg_tup (n := 2) rfl (pgs_cons (pg_name (i := 2) nd rfl (.inr rfl)) (pgs_cons (pg_name (i := 3) nd rfl (.inl rfl)) pgs_nil))))
      (pss_cons (ps_lock (ps_setLc (i := 4) (own := [("rest", 7)]) (g := gName 7) rfl nd rfl rfl (sw_true rfl rfl rfl (by decide +kernel)) (pi_keys (pv 1)) (blkOk_by (own := [("rest", 7)]) (N := ["words", "rests", "many", "behind", "waiting", "found", "at", "rest", "other", "word"]) (sc := defScope s_heights_of) (by decide +kernel)) (fun _ _ _ _ _ => (pg_name (i := 7) nd rfl (.inl rfl))) (fun _ _ _ _ _ => (pts_one (pt_cmpR op_eqn (pe_dgetN (hu_of hr) (pv 2) (pv 7) (fun _ _ => rfl)) pe_int (nomark _)))) (fun _ _ _ _ _ => (pv 7))))
      (pss_cons (ps_set (i := 5) nd rfl (.inr rfl) pe_dnewK)
      (pss_cons (ps_set (i := 6) nd rfl (.inl rfl) pe_int)
      (pss_cons (ps_while PassesOwn.never (pt_cmpR op_lt (pv 6) (pe_callB (r := rLenL K) call_lenl (by rfl) B.len PySem.boot_len (pa_cons (pv 4) pa_nil)) (nomark _))
        (pss_cons (ps_set (i := 7) nd rfl (.inr rfl) (pe_ix (r := rIxLn K) ix_l (pv 4) (pv 6) (fun _ _ => rfl)))
        (pss_cons (ps_dputN (hu_of hr) (pv 5) (pv 7) (pe_maxD rfl hr.units (by rfl) B.max (pa_cons (pe_lc (own := [("word", 9)]) (g := gName 9) (tt := tYes) rfl nd (pi_list (pv 0)) (blkOk_by (own := [("word", 9)]) (N := ["words", "rests", "many", "behind", "waiting", "found", "at", "rest", "other", "word"]) (sc := defScope s_heights_of) (by decide +kernel)) (fun _ _ _ _ _ => (pg_name (i := 9) nd rfl (.inl rfl))) (fun _ _ _ _ _ => pts_nil) (fun _ _ _ _ _ => (pe_cal c_worth hr (pa_cons (pv 7) (pa_cons (pv 9) (pa_cons (pv 5) pa_nil)))))) pa_nil)) rfl)
        (pss_cons (ps_for PassesOwn.never rfl (pi_list (pe_dgetN (hu_of hr) (pv 3) (pv 7) (fun _ _ => rfl))) (pg_name (i := 8) nd rfl (.inl rfl))
          (pss_cons (ps_dputN (hu_of hr) (pv 2) (pv 8) (pe_op op_sub (pe_dgetN (hu_of hr) (pv 2) (pv 8) (fun _ _ => rfl)) pe_int) rfl)
          (pss_one (ps_if (pt_cmpR op_eqn (pe_dgetN (hu_of hr) (pv 2) (pv 8) (fun _ _ => rfl)) pe_int (nomark _))
            (pss_one (ps_expr (pe_bm PySem.F.plainAttrs_list PySem.F.slot_list_append PySem.F.type_list_append mt_app (pv 4) (pa_cons (pv 8) pa_nil))))
            pss_nil))))
        (pss_one (ps_set (i := 6) nd rfl (.inl rfl) (pe_op op_add (pv 6) pe_int)))))))
      (pss_one (ps_ret (pv 5)))))))), ?_⟩
    try dsimp only [cxOf, Cx.nox, Cx.wish]
    have pd : p ≠ d := fun z => by rw [z, hd] at hp; cases hp
    fail "gi"
    refine ⟨ws, R, kvs, hp, hd, hk, ndR, rl, c, r10, cl, fun PW af mk bk m b t H1 s1 nm nb nt ht hm hb hmk hv ha hq hall hpl => ?_⟩
    have hp1 := s1 _ _ hp
    have hd1 := s1 _ _ hd
    fail "gi"
    refine ⟨d, .dK kvs, hd1, trivial, fun od => ?_⟩
    have md : m ≠ d := ne_free nm hd
    have hmL : L2.upd H1 d (.frz od (.dK kvs)) m = some (.dK mk) := by rw [upd_ne md]; exact hm
    have hdL : L2.upd H1 d (.frz od (.dK kvs)) d = some (.frz od (.dK kvs)) := L2.upd_same
    have back : ∀ H'', Same (L2.upd H1 d (.frz od (.dK kvs))) H'' → Same H1 (L2.upd H'' d (.dK kvs)) := fun H'' => unlock hd1
    have nfree : ∀ a, L2.upd H1 d (.frz od (.dK kvs)) a = none → H1 a = none := fun a e => by
      by_cases z : a = d
      · rw [z, L2.upd_same] at e; cases e
      · rw [upd_ne z] at e; exact e
    revert hmL hdL back nfree
    generalize L2.upd H1 d (.frz od (.dK kvs)) = HL
    intro hmL hdL back nfree
    fail "gi"
    refine keys_lc (j := 7) hk hdL (by omega) (fun r => decide (((out PW [] r : Nat) : Int) = 0)) _ (fun x hx H3 e3 Q3 q3 => ?_) (fun x hx hc H3 e3 Q3 q3 => ?_) (fun D H3 nD s3 hD => ?_)
    · have lv := hv x hx
      have hm3 := e3 _ _ hmL
      fail "gi"
      exact q3 _ (Same.refl _)
    · fail "gi"
      exact q3 _ (Same.refl _)
    · have hd3 := s3 _ _ hdL
      have s4 := back _ s3
      have nD1 := nfree _ nD
      have dD : D ≠ d := ne_free nD1 hd1
      have hD4 : L2.upd H3 d (.dK kvs) D = some (.lst ((R.filter fun r => decide (((out PW [] r : Nat) : Int) = 0)).map sv)) := by rw [upd_ne dD]; exact hD
      refine (show _ ∧ _ from ⟨hd3, ?_⟩)
      generalize L2.upd H3 d (.dK kvs) = H4 at *
      have nDH : H D = none := s1.free nD1
      have hm4 := s4 _ _ hm
      have hb4 := s4 _ _ hb
      have hp4 := s4 _ _ hp1
      have ha4 : ∀ r ∈ R, valV bk (.inr (S r)) = some (.ref (af r)) ∧ H4 (af r) = some (.lst ((into PW r).map sv)) := fun r hr => ⟨(ha r hr).1, s4 _ _ (ha r hr).2⟩
      have sH4 := s1.trans s4
      clear hmL hdL back nfree s3 hD hd3 s4 nD
      fail "gi"
      rename_i f nf
      have nfH : H f = none := sH4.free nf
      have Df : D ≠ f := ne_of_none hD4 nf
      have Dm : D ≠ m := fun z => by rw [z, hm4] at hD4; cases hD4
      have fm : f ≠ m := fun z => by rw [z, hm4] at nf; cases nf
      refine ⟨fun n σ' H' => ∃ (k : Nat) (W : List Wd) (h : Wd → Nat) (fk mk : List (Key × V)) (y7 y8 y9 : Option V), σ' = [some (.ref p), some (.ref d), some (.ref m), some (.ref b), some (.ref D), some (.ref f), some (.int k), y7, y8, y9] ∧ n = 200 - k ∧ k ≤ W.length ∧ Same H H' ∧ H' D = some (.lst (W.map sv)) ∧ H' m = some (.dK mk) ∧ H' b = some (.dK bk) ∧ H' f = some (.dK fk) ∧ H' p = some (.lst (ws.map sv)) ∧
        mk.map (·.1) = R.map (fun a => (.inr (S a) : Key)) ∧ fk.map (·.1) = (W.take k).map (fun a => (.inr (S a) : Key)) ∧ W.Nodup ∧ (∀ r ∈ W, r ∈ R) ∧ (∀ r ∈ R, valV mk (.inr (S r)) = some (.int (out PW (W.take k) r : Nat))) ∧ (∀ r ∈ R, r ∈ W ↔ out PW (W.take k) r = 0) ∧ (∀ r ∈ R, H' (af r) = some (.lst ((into PW r).map sv))) ∧
        (∀ r ∈ W.take k, valV fk (.inr (S r)) = some (.int (h r : Nat))) ∧ (∀ r ∈ W.take k, h r = hval ws h r ∧ Hgt ws r ∧ ∀ w ∈ ws, ∀ s, tgt r w = some s → s ∈ W.take k),
        ⟨_, 0, R.filter fun r => decide (((out PW [] r : Nat) : Int) = 0), fun _ => 0, [], mk, _, _, _, rfl, rfl, Nat.zero_le _, ?_, ?_, ?_, ?_, L2.upd_same, ?_, hmk, rfl, ndR.filter _, fun r hr => (List.mem_filter.mp hr).1, hv, fun r hr => ?_, fun r hr => ?_, (fun _ h => by cases h), fun _ h => by cases h⟩, ?_⟩
      · fail "same"
      · fail "look"
      · fail "look"
      · fail "look"
      · fail "look"
      · rw [List.mem_filter]
        show _ ∧ _ ↔ out PW [] r = 0
        rw [decide_eq_true_iff]
        exact ⟨fun z => by omega, fun z => ⟨hr, by omega⟩⟩
      · exact new nf _ _ (ha4 r hr).2
      · rintro n σ' H' ⟨k, W, h, fk, mk, y7, y8, y9, rfl, rfl, kW, b1, bD, bm, bb, bf, bp, kmk, kfk, ndW, WR, vmk, iffW, bA, vfk, hfk⟩
        have Wl : W.length ≤ 132 := by have := nd_len ndW WR; omega
        fail "gi"
        dsimp only
        refine itd (fun e => ?_) fun e => ?_
        · have hk1 : k < W.length := by rw [List.length_map] at e; omega
          obtain ⟨r, hr⟩ : ∃ r, W[k]? = some r := ⟨_, List.getElem?_eq_getElem hk1⟩
          have hrW : r ∈ W := List.mem_of_getElem? hr
          have rR := WR r hrW
          have tk : W.take (k + 1) = W.take k ++ [r] := by rw [List.take_add_one, hr]; rfl
          have rk : r ∉ W.take k := fun z => by
            have : (W.take (k + 1)).Nodup := ndW.sublist (List.take_sublist _ _)
            rw [tk] at this
            exact (List.nodup_append.mp this).2.2 r z r List.mem_cons_self rfl
          have all0 := out_zero.mp ((iffW r rR).mp hrW)
          have tin : ∀ w ∈ ws, ∀ s, tgt r w = some s → s ∈ W.take k := fun w hw s ts => all0 (r, w) (hall r rR w hw) rfl s ts
          have lk : (W.map sv)[k]? = some (sv r) := by rw [List.getElem?_map, hr]; rfl
          have r1 := r10 r rR
          have fl : fk.length < 100000 := by rw [keys_len2 kfk, List.length_take]; omega
          have wle := c.le
          refine ⟨fun σ' H' => ∃ (W : List Wd) (h : Wd → Nat) (fk mk : List (Key × V)) (y7 y8 y9 : Option V), σ' = [some (.ref p), some (.ref d), some (.ref m), some (.ref b), some (.ref D), some (.ref f), some (.int (k + 1)), y7, y8, y9] ∧ k + 1 ≤ W.length ∧ Same H H' ∧ H' D = some (.lst (W.map sv)) ∧ H' m = some (.dK mk) ∧ H' b = some (.dK bk) ∧ H' f = some (.dK fk) ∧ H' p = some (.lst (ws.map sv)) ∧
            mk.map (·.1) = R.map (fun a => (.inr (S a) : Key)) ∧ fk.map (·.1) = (W.take (k + 1)).map (fun a => (.inr (S a) : Key)) ∧ W.Nodup ∧ (∀ r ∈ W, r ∈ R) ∧ (∀ r ∈ R, valV mk (.inr (S r)) = some (.int (out PW (W.take (k + 1)) r : Nat))) ∧ (∀ r ∈ R, r ∈ W ↔ out PW (W.take (k + 1)) r = 0) ∧ (∀ r ∈ R, H' (af r) = some (.lst ((into PW r).map sv))) ∧
            (∀ r ∈ W.take (k + 1), valV fk (.inr (S r)) = some (.int (h r : Nat))) ∧ (∀ r ∈ W.take (k + 1), h r = hval ws h r ∧ Hgt ws r ∧ ∀ w ∈ ws, ∀ s, tgt r w = some s → s ∈ W.take (k + 1)), ?_, ?_⟩
          · rintro σ' H' ⟨W, h, fk, mk, y7, y8, y9, rfl, c1, c2⟩
            refine ⟨_, ?_, k + 1, W, h, fk, mk, y7, y8, y9, rfl, rfl, c1, c2⟩
            omega
          · fail "gi"
            refine ⟨_, lk, ?_⟩
            fail "gi"
            rename_i D2 nD2
            refine lc_w (xs := ws) (j := 9) (fun _ => true) (fun w => .int (wval h r w : Nat)) nD2 (by fail "seq") (by omega) (fun x hx => evYes) (fun x hx hc H3 e3 Q3 q3 => ?_) (fun H3 e3 h3 => ?_)
            · have x10 := c.len hx
              have bf3 := e3 _ _ bf
              fail "gi"
              refine ⟨fk, h, .inl bf3, fun s ts => vfk s (tin x hx s ts), ?_⟩
              exact fun H4 s4 => q3 _ s4
            · have f1 : ws.filter (fun _ => true) = ws := List.filter_eq_self.mpr fun _ _ => rfl
              rw [f1] at h3
              have h3' : H3 D2 = some (.lst ((ws.map (wval h r)).map fun n => V.int (n : Nat))) := by rw [h3, List.map_map]; rfl
              have b13 := b1.trans e3
              have bD3 := e3 _ _ bD
              have bm3 := e3 _ _ bm
              have bb3 := e3 _ _ bb
              have bf3 := e3 _ _ bf
              have bp3 := e3 _ _ bp
              have bA3 : ∀ r ∈ R, H3 (af r) = some (.lst ((into PW r).map sv)) := fun r hr => e3 _ _ (bA r hr)
              have lb := (ha r rR).1
              clear e3
              have bnf : b ≠ f := (ne_free nf hb4).symm
              have mnf : m ≠ f := fm.symm
              have pnf : p ≠ f := (ne_free nf hp4).symm
              have anf : ∀ r ∈ R, af r ≠ f := fun r hr => (ne_free nf (ha4 r hr).2).symm
              have anm : ∀ r ∈ R, af r ≠ m := fun r hr z => by have := bA3 r hr; rw [z, bm3] at this; cases this
              have anD : ∀ r ∈ R, af r ≠ D := fun r hr z => by have := (ha4 r hr).2; rw [z] at this; have k2 := (ha r hr).2; rw [z, nD1] at k2; cases k2
              have hA4 : L2.upd H3 f (.dK (putK fk (.inr (S r)) (.int (most (ws.map (wval h r)) : Nat)))) (af r) = some (.lst ((into PW r).map sv)) := by rw [upd_ne (anf r rR)]; exact bA3 r rR
              fail "gi"
              refine for_wl (xs := into PW r) (j := 8) (fun preB σ' H' => ∃ (W' postB : List Wd) (ext : List Wd) (mk : List (Key × V)) (y8 : Option V), σ' = [some (.ref p), some (.ref d), some (.ref m), some (.ref b), some (.ref D), some (.ref f), some (.int k), some (sv r), y8, y9] ∧ into PW r = preB ++ postB ∧ W' = W ++ ext ∧ Same H H' ∧ H' D = some (.lst (W'.map sv)) ∧ H' m = some (.dK mk) ∧ H' b = some (.dK bk) ∧ H' f = some (.dK (putK fk (.inr (S r)) (.int (most (ws.map (wval h r)) : Nat)))) ∧ H' p = some (.lst (ws.map sv)) ∧
                mk.map (·.1) = R.map (fun a => (.inr (S a) : Key)) ∧ W'.Nodup ∧ (∀ r ∈ W', r ∈ R) ∧ (∀ x ∈ R, valV mk (.inr (S x)) = some (.int (out PW (W.take k ++ [r]) x + postB.count x : Nat))) ∧ (∀ x ∈ R, x ∈ W' ↔ out PW (W.take k ++ [r]) x + postB.count x = 0) ∧ (∀ x ∈ R, H' (af x) = some (.lst ((into PW x).map sv))))
                ⟨W, into PW r, [], mk, y8, rfl, rfl, (List.append_nil W).symm, mutd b13 nfH, by fail "look", by fail "look", by fail "look", L2.upd_same, by fail "look", kmk, ndW, WR, fun x hx => ?_, fun x hx => ?_, fun x hx => ?_⟩ ?_ ?_ ?_
              · rw [vmk x hx, out_add rk x PW]
              · rw [iffW x hx, out_add rk x PW]
              · rw [upd_ne (anf x hx)]; exact bA3 x hx
              · rintro preB σ' H' ⟨W', postB, ext, mk, y8, rfl, c1, c2, c3, c4, c5, c6, c7, c8, c9, c10, c11, c12, c13, c14⟩
                exact SqL.of (c14 r rR)
              · rintro preB x postx σ' H' ex ⟨W', postB, ext, mk, y8, rfl, c1, c2, c3, c4, c5, c6, c7, c8, c9, c10, c11, c12, c13, c14⟩
                obtain rfl : postB = x :: postx := List.append_cancel_left (c1.symm.trans ex)
                have xR : x ∈ R := by
                  have : x ∈ into PW r := by rw [ex]; exact List.mem_append_right _ List.mem_cons_self
                  unfold into at this
                  obtain ⟨u, hu, rfl⟩ := List.mem_map.mp this
                  exact (hq u (List.mem_filter.mp hu).1).1
                have bm' : b ≠ m := fun z => by
                  rw [z, c5] at c6
                  have e1 : mk = bk := by injection c6 with c6; injection c6
                  have e2 := c12 x xR
                  rw [e1, (ha x xR).1] at e2
                  cases e2
                have lv := c12 x xR
                have bD' : b ≠ D := fun z => by rw [z, c4] at c6; cases c6
                have pD : p ≠ D := (ne_free nDH hp).symm
                have pm : p ≠ m := fun z => by rw [z, c5] at c8; cases c8
                have cc : (x :: postx).count x = postx.count x + 1 := List.count_cons_self
                have cn : ∀ y, y ≠ x → (x :: postx).count y = postx.count y := fun y hy => List.count_cons_of_ne (fun z => hy z.symm)
                have ml : mk.length < 100000 := by rw [keys_len2 c9]; omega
                have lv2 : valV (putK mk (.inr (S x)) (.int ((out PW (W.take k ++ [r]) x + (x :: postx).count x : Nat) - 1))) (.inr (S x)) = some (.int ((out PW (W.take k ++ [r]) x + (x :: postx).count x : Nat) - 1)) := by rw [valS_put, if_pos rfl]
                have el : into PW r = preB ++ [x] ++ postx := by rw [ex, List.append_assoc]; rfl
                have W'l : W'.length ≤ 132 := by have := nd_len c10 c11; omega
                have al : (W'.map sv).length < 16000000 := by rw [List.length_map]; omega
                have v12 : ∀ y ∈ R, valV (putK mk (.inr (S x)) (.int ((out PW (W.take k ++ [r]) x + (x :: postx).count x : Nat) - 1))) (.inr (S y)) = some (.int (out PW (W.take k ++ [r]) y + postx.count y : Nat)) := fun y hy => by
                  rw [valS_put]
                  by_cases z : y = x
                  · rw [if_pos z, z, cc]
                    exact congrArg (fun i => some (V.int i)) (by omega)
                  · rw [if_neg z, ← cn y z]
                    exact c12 y hy
                fail "gi"
                refine itd (fun e0 => ?_) fun e0 => ?_
                · have xW : x ∉ W' := fun z => by
                    have := (c13 x xR).mp z
                    omega
                  fail "gi"
                  refine ⟨W' ++ [x], postx, ext ++ [x], _, _, rfl, el, by rw [c2, List.append_assoc], ?_, by rw [L2.upd_same, List.map_append]; rfl, ?_, ?_, ?_, ?_, put_old c9 xR _, List.nodup_append.mpr ⟨c10, by simp, fun u hu v hv => by rw [List.mem_singleton.mp hv]; exact fun z => xW (z ▸ hu)⟩, fun u hu => ?_, v12, fun y hy => ?_, fun y hy => ?_⟩
                  · exact mutd (mutd c3 nm) nDH
                  · rw [upd_ne Dm.symm]; exact L2.upd_same
                  · rw [upd_ne bD', upd_ne bm']; exact c6
                  · rw [upd_ne Df.symm, upd_ne fm]; exact c7
                  · rw [upd_ne pD, upd_ne pm]; exact c8
                  · rcases List.mem_append.mp hu with h | h
                    · exact c11 u h
                    · rw [List.mem_singleton.mp h]; exact xR
                  · rw [List.mem_append, List.mem_singleton]
                    by_cases z : y = x
                    · rw [z]
                      exact ⟨fun _ => by omega, fun _ => .inr rfl⟩
                    · rw [c13 y hy, cn y z]
                      exact ⟨fun h => h.elim id fun h => absurd h z, .inl⟩
                  · rw [upd_ne (anD y hy), upd_ne (anm y hy)]; exact c14 y hy
                · fail "gi"
                  refine ⟨W', postx, ext, _, _, rfl, el, c2, mutd c3 nm, by rw [upd_ne Dm]; exact c4, L2.upd_same, by rw [upd_ne bm']; exact c6, by rw [upd_ne fm]; exact c7, by rw [upd_ne pm]; exact c8, put_old c9 xR _, c10, c11, v12, fun y hy => ?_, fun y hy => by rw [upd_ne (anm y hy)]; exact c14 y hy⟩
                  by_cases z : y = x
                  · rw [c13 y hy, z]
                    omega
                  · rw [c13 y hy, cn y z]
              · rintro σ' H' ⟨W', postB, ext, mk, y8, rfl, c1, c2, c3, c4, c5, c6, c7, c8, c9, c10, c11, c12, c13, c14⟩
                obtain rfl : postB = [] := List.append_cancel_left (c1.symm.trans (List.append_nil _).symm)
                have W't : W'.take (k + 1) = W.take k ++ [r] := by rw [c2, List.take_append_of_le_length hk1, tk]
                have hne : ∀ x ∈ W.take k, x ≠ r := fun x hx z => rk (z ▸ hx)
                fail "gi"
                refine ⟨W', fun x => if x = r then most (ws.map (wval h r)) else h x, _, mk, _, _, _, rfl, by rw [c2, List.length_append]; omega, c3, c4, c5, c6, c7, c8, c9, ?_, c10, c11, ?_, ?_, c14, ?_, ?_⟩
                · rw [W't]; exact put_new kfk rk _
                · rw [W't]; exact c12
                · rw [W't]; exact c13
                · rw [W't]
                  intro x hx
                  rw [valS_put]
                  dsimp only
                  by_cases z : x = r
                  · rw [if_pos z, if_pos z]
                  · rw [if_neg z, if_neg z]
                    rcases List.mem_append.mp hx with h | h
                    · exact vfk x h
                    · exact absurd (List.mem_singleton.mp h) z
                · rw [W't]
                  intro x hx
                  have same : ∀ y, (∀ w ∈ ws, ∀ s, tgt y w = some s → s ∈ W.take k) → hval ws (fun x => if x = r then most (ws.map (wval h r)) else h x) y = hval ws h y := fun y hy => hval_congr fun w hw s ts => if_neg (hne s (hy w hw s ts))
                  by_cases z : x = r
                  · rw [z]
                    refine ⟨?_, .mk fun w hw s ts => (hfk s (tin w hw s ts)).2.1, fun w hw s ts => List.mem_append_left _ (tin w hw s ts)⟩
                    rw [same r tin]
                    exact if_pos rfl
                  · have hx' : x ∈ W.take k := by
                      rcases List.mem_append.mp hx with h | h
                      · exact h
                      · exact absurd (List.mem_singleton.mp h) z
                    obtain ⟨g1, g2, g3⟩ := hfk x hx'
                    refine ⟨?_, g2, fun w hw s ts => List.mem_append_left _ (g3 w hw s ts)⟩
                    rw [same x g3]
                    exact (if_neg z).trans g1
        · have ke : k = W.length := by rw [List.length_map] at e; omega
          have tkW : W.take k = W := by rw [ke, List.take_length]
          rw [tkW] at kfk iffW vfk hfk
          fail "gi"
          refine q W h fk f _ b1 nfH bf kfk vfk ⟨ndW, fun r => ⟨fun z => ⟨WR r z, (hfk r z).2.1⟩, fun z => ?_⟩, fun r z => (hfk r z).1⟩
          obtain ⟨zR, zH⟩ := z
          induction zH with
          | @mk r hs ih =>
            exact (iffW r zR).mpr (out_zero.mpr fun p hp e s ts => by
              rw [e] at ts
              exact ih p.2 (hq p hp).2 s ts (cl r zR p.2 (hq p hp).2 s ts))

theorem most_perm {a b : List Nat} (h : a.Perm b) : most a = most b := by
  induction h with
  | nil => rfl
  | cons x _ ih => show max x _ = max x _; rw [ih]
  | swap x y l => show max y (max x (most l)) = max x (max y (most l)); omega
  | trans _ _ a b => exact a.trans b
theorem Hgt.perm {ws zs : List Wd} (h : ∀ w ∈ zs, w ∈ ws) {r : Wd} (g : Hgt ws r) : Hgt zs r := by
  induction g with
  | mk _ ih => exact .mk fun w hw s ts => ih w (h w hw) s ts
theorem Hts.perm {ws zs R P : List Wd} {h : Wd → Nat} (p : ws.Perm zs) (a : Hts ws R P h) : Hts zs R P h where
  nd := a.nd
  iff := fun r => (a.iff r).trans ⟨fun ⟨x, y⟩ => ⟨x, y.perm fun _ => p.mem_iff.mpr⟩, fun ⟨x, y⟩ => ⟨x, y.perm fun _ => p.mem_iff.mp⟩⟩
  val := fun r hr => (a.val r hr).trans (most_perm (p.map _))
theorem Lst.tgt {ws : List Wd} {E : Tb} (f : Lst ws E) : ∀ r ∈ keysT E, ∀ w ∈ ws, ∀ s, One.tgt r w = some s → s ∈ keysT E := fun r hr w hw s ts => by
  obtain ⟨p, hp⟩ := Option.isSome_iff_exists.mp (key_look.mp hr)
  unfold One.tgt at ts
  cases e : step r w with
  | none => rw [e] at ts; cases ts
  | some x =>
    rw [e] at ts
    obtain rfl := Option.some.inj ts
    obtain ⟨q, hq, _⟩ := f.cl r p hp w hw p x.1 x.2 hp e
    exact key_look.mpr (by rw [hq]; rfl)
theorem Lst.ten {ws : List Wd} {E : Tb} (f : Lst ws E) : ∀ r ∈ keysT E, r.length ≤ 10 := fun r hr => by
  obtain ⟨p, hp⟩ := Option.isSome_iff_exists.mp (key_look.mp hr)
  exact f.key r p hp
theorem Lst.keys {ws : List Wd} {E E' : Tb} (f : Lst ws E) (g : Lst ws E') (r : Wd) (h : r ∈ keysT E) : r ∈ keysT E' := by
  obtain ⟨p, hp⟩ := Option.isSome_iff_exists.mp (key_look.mp h)
  obtain ⟨q, hq, _⟩ := g.least (f.der r p hp)
  exact key_look.mpr (by rw [hq]; rfl)
theorem keys_dE (E : Tb) : (dE E).map (·.1) = (keysT E).map fun a => (.inr (S a) : Key) := by
  unfold dE keysT
  rw [List.map_map, List.map_map]; rfl
theorem valV_off {ms : List (Key × V)} {k : Key} (h : k ∉ ms.map (·.1)) : valV ms k = none := by
  induction ms with
  | nil => rfl
  | cons m ms ih =>
    rw [List.map_cons, List.mem_cons] at h
    rw [show m = (m.1, m.2) from rfl, valV_neg (fun z => h (.inl z.symm))]
    exact ih fun z => h (.inr z)
def hgt (P : List Wd) (h : Wd → Nat) (r : Wd) : V := if r ∈ P then .int (h r : Nat) else .non
def hD (R P : List Wd) (h : Wd → Nat) : List (Key × V) := R.map fun r => (.inr (S r), hgt P h r)
theorem hD_keys (R P : List Wd) (h : Wd → Nat) : (hD R P h).map (·.1) = R.map fun a => (.inr (S a) : Key) := by
  unfold hD
  rw [List.map_map]; rfl
theorem hD_val {R P : List Wd} {h : Wd → Nat} {r : Wd} (hr : r ∈ R) : valV (hD R P h) (.inr (S r)) = some (hgt P h r) := by
  induction R with
  | nil => cases hr
  | cons x R ih =>
    by_cases z : x = r
    · rw [← z]; exact valV_pos rfl
    · show valV ((.inr (S x), hgt P h x) :: hD R P h) _ = _
      rw [valV_neg (fun y => z (inrS.mp y))]
      exact ih ((List.mem_cons.mp hr).resolve_left fun y => z y.symm)
abbrev s_heights : Stmt := top 23
theorem sc_heights : FnScope ["words", "some", "rests", "found", "told", "rest"] ["words"] (defScope s_heights) := ⟨rfl, rfl, rfl, by decide +kernel, rfl, by decide +kernel, by decide +kernel⟩
def sp_heights : Sp := fun vs H Q _ => ∃ p : Addr, vs = [.ref p] ∧ ∃ ws : List Wd, H p = some (.lst (ws.map sv)) ∧ Code ws ∧ ∀ E P h, Lst ws E → Hts ws (keysT E) P h → RetD H Q (hD (keysT E) P h)
theorem ok_heights (B : Bi mg) (T_Table : TableC K C) (D : Def K mg "heights" s_heights) (c_checked : Cal P w K mg base CX0 "checked" 2 ["words"] sp_checked) (c_table_of : Cal P w K mg base CX0 "table_of" 5 ["words"] (sp_table_of C)) (c_heights_of : Cal P w K mg base CX0 "heights_of" 4 ["words", "rests"] sp_heights_of) : Cal P w K mg base CX0 "heights" 6 ["words"] sp_heights := by
  have nd := sc_heights.nd
  obtain ⟨T_cl, T_n1, T_n2, T_n3⟩ := T_Table
  refine D.cal sc_heights (fun _ _ _ _ _ _ us hl => match us, hl with | [_], _ => rfl) (fun vs H Q E h => ?_) (fun f cdv A outer s H vs Q E hr h => ?_)
  · obtain ⟨_, rfl, _⟩ := h
    rfl
  · obtain ⟨p, rfl, ws, hp, c, q⟩ := h
    refine ⟨_, PSs.nox (pss_cons (ps_set (i := 1) nd rfl (.inl rfl) (pe_cal c_checked hr (pa_cons (pv 0) pa_nil)))
      (pss_cons (ps_set (i := 2) nd rfl (.inl rfl) (pe_fld (pe_cal c_table_of hr (pa_cons (pv 1) pa_nil)) rfl))
      (pss_cons (ps_set (i := 3) nd rfl (.inl rfl) (pe_cal c_heights_of hr (pa_cons (pv 1) (pa_cons (pv 2) pa_nil))))
      (pss_cons (ps_set (i := 4) nd rfl (.inl rfl) pe_dnewK)
      (pss_cons (ps_lock (ps_for PassesOwn.never rfl (pi_keys (pv 2)) (pg_name (i := 5) nd rfl (.inl rfl))
        (pss_one (ps_dputN (hu_of hr) (pv 4) (pv 5) (pe_dget1N (hu_of hr) (pv 3) (pv 5) (by constructor <;> rfl)) rfl))))
      (pss_one (ps_ret (pv 4)))))))), ?_⟩
    try dsimp only [cxOf, Cx.nox, Cx.wish]
    fail "gi"
    intro zs pz
    fail "gi"
    rename_i p1 H1 s1 n1 hp1
    have hz := Code.perm pz c
    refine ⟨hz, fun H2 x E dx la ca fa kc T f' => ?_⟩
    have hx := T.hx
    unfold tabF at hx
    have hl := T.hl
    have L := f'.lst hz
    have hp2 := T.s _ _ hp1
    fail "gi"
    refine ⟨zs, keysT E, dE E, hp2, hl, keys_dE E, L.nd, by rw [keys_len]; exact L.len, hz, L.ten, L.tgt, fun P h fk f H3 s3 nf hf fkk fkv ht => ?_⟩
    have hl3 := s3 _ _ hl
    fail "gi"
    rename_i td ntd
    have hlT : L2.upd H3 td (.dK []) la = some (.dK (dE E)) := new ntd _ _ hl3
    have hfT : L2.upd H3 td (.dK []) f = some (.dK fk) := new ntd _ _ hf
    have htT : L2.upd H3 td (.dK []) td = some (.dK []) := L2.upd_same
    have sT : Same H (L2.upd H3 td (.dK [])) := s1.trans (T.s.trans (s3.trans (new ntd)))
    have tl : td ≠ la := ne_free ntd hl3
    have ft : f ≠ td := (ne_free ntd hf).symm
    have ntd0 : H td = none := s1.free (T.s.free (s3.free ntd))
    have fla : f ≠ la := ne_free nf hl
    generalize L2.upd H3 td (.dK []) = H4 at *
    fail "gi"
    refine ⟨la, .dK (dE E), hlT, trivial, fun od => ?_⟩
    have tL : L2.upd H4 la (.frz od (.dK (dE E))) td = some (.dK []) := by rw [upd_ne tl]; exact htT
    have fL : L2.upd H4 la (.frz od (.dK (dE E))) f = some (.dK fk) := by rw [upd_ne fla]; exact hfT
    have lL : L2.upd H4 la (.frz od (.dK (dE E))) la = some (.frz od (.dK (dE E))) := L2.upd_same
    have back : ∀ H'', Same (L2.upd H4 la (.frz od (.dK (dE E)))) (L2.upd H'' td (.dK [])) → Same H4 (L2.upd (L2.upd H'' td (.dK [])) la (.dK (dE E))) := fun H'' => unlock hlT
    revert tL fL lL back
    generalize L2.upd H4 la (.frz od (.dK (dE E))) = HL
    intro tL fL lL back
    fail "gi"
    refine keys_in (od := od) (j := 5) (keys_dE E) lL (fun pre σ' H' => ∃ (y : Option V) (tk : List (Key × V)), σ' = [some (.ref p), some (.ref p1), some (.ref la), some (.ref f), some (.ref td), y] ∧ Same HL (L2.upd H' td (.dK [])) ∧ H' td = some (.dK tk) ∧ H' la = some (.frz od (.dK (dE E))) ∧ H' f = some (.dK fk) ∧ tk = hD pre P h)
      ⟨_, [], rfl, ?_, tL, lL, fL, rfl⟩ ?_ ?_ ?_
    · intro u o e
      by_cases z : u = td
      · rw [z] at e ⊢
        rw [L2.upd_same, ← tL, e]
      · rw [upd_ne z]; exact e
    · rintro pre σ' H' ⟨y, tk, rfl, b1, b2, b3, b4, b5⟩
      exact b3
    · rintro pre r post σ' H' ex ⟨y, tk, rfl, b1, b2, b3, b4, b5⟩
      have rR : r ∈ keysT E := by rw [ex]; exact List.mem_append_right _ List.mem_cons_self
      have rp : r ∉ pre := fun z => by
        have := L.nd
        rw [ex] at this
        exact (List.nodup_append.mp this).2.2 r z r List.mem_cons_self rfl
      have tkl : tk.length < 100000 := by
        have h1 := keys_len2 (show tk.map (·.1) = pre.map fun a => (.inr (S a) : Key) by rw [b5]; exact hD_keys pre P h)
        have h2 := congrArg List.length ex
        rw [keys_len, List.length_append] at h2
        have := L.len
        omega
      have lf : (valV fk (.inr (S r))).getD .non = hgt P h r := by
        unfold hgt
        by_cases z : r ∈ P
        · rw [if_pos z, fkv r z]; rfl
        · rw [if_neg z, valV_off (by rw [fkk]; exact fun y => z (key_mem.mp y))]; rfl
      fail "gi"
      rw [lf]
      refine ⟨_, _, rfl, ?_, L2.upd_same, by rw [upd_ne tl.symm]; exact b3, by rw [upd_ne ft]; exact b4, ?_⟩
      · rw [L2.upd_upd]; exact b1
      · rw [b5]
        have k := keys_putK (hD pre P h) (.inr (S r)) (hgt P h r)
        unfold putK
        rw [if_neg (fun z => ?_)]
        · unfold hD
          rw [List.map_append]; rfl
        · obtain ⟨u, hu, e⟩ := List.any_eq_true.mp z
          obtain ⟨v, hv, rfl⟩ := List.mem_map.mp hu
          exact rp ((inrS.mp (of_decide_eq_true e)) ▸ hv)
    · rintro σ' H' ⟨y, tk, rfl, b1, b2, b3, b4, b5⟩
      refine ⟨b3, ?_⟩
      fail "gi"
      refine q E P h ((f'.lst hz).perm fun w => pz.mem_iff) (ht.perm pz) td _ ?_ ntd0 (by rw [upd_ne tl]; exact b5 ▸ b2)
      intro u o e
      have ut : u ≠ td := fun z => by rw [z, ntd0] at e; cases e
      have k := back H' b1 u o (sT u o e)
      by_cases z : u = la
      · rw [z, L2.upd_same] at k ⊢
        exact k
      · rw [upd_ne z, upd_ne ut] at k
        rw [upd_ne z]
        exact k

abbrev s_law_step : Stmt := top 34
theorem sc_law_step : FnScope ["_law_rest", "_law_word_here"] ["_law_rest", "_law_word_here"] (defScope s_law_step) := ⟨rfl, rfl, rfl, by decide +kernel, rfl, by decide +kernel, by decide +kernel⟩
theorem ok_law_step (B : Bi mg) (D : Def K mg "_law_step" s_law_step) : Cal P w K mg base CX0 "_law_step" 1 ["_law_rest", "_law_word_here"] sp_stepped := by
  have nd := sc_law_step.nd
  refine D.cal sc_law_step (fun _ _ _ _ _ _ us hl => match us, hl with | [_, _], _ => rfl) (fun vs H Q E h => ?_) (fun f cdv A outer s H vs Q E hr h => ?_)
  · obtain ⟨_, _, rfl, _⟩ := h
    rfl
  · obtain ⟨a, b, rfl, ha, hb, q0, q1⟩ := h
    refine ⟨_, PSs.nox (pss_cons (ps_if (pt_cmpR op_eqw (pe_slice (r := rSlW) sl_w (pv 0) po_none (po_some (pe_callB call_lenw (by rfl) B.len PySem.boot_len (pa_cons (pv 1) pa_nil)))) (pv 1) (nomark _))
        (pss_one (ps_ret (pe_tup (pa_cons (pe_slice (r := rSlW) sl_w (pv 0) (po_some (pe_callB call_lenw (by rfl) B.len PySem.boot_len (pa_cons (pv 1) pa_nil))) po_none) (pa_cons pe_bl pa_nil)))))
        pss_nil)
      (pss_cons (ps_if (pt_cmpR op_eqw (pe_slice (r := rSlW) sl_w (pv 1) po_none (po_some (pe_callB call_lenw (by rfl) B.len PySem.boot_len (pa_cons (pv 0) pa_nil)))) (pv 0) (nomark _))
        (pss_one (ps_ret (pe_tup (pa_cons (pe_slice (r := rSlW) sl_w (pv 1) (po_some (pe_callB call_lenw (by rfl) B.len PySem.boot_len (pa_cons (pv 0) pa_nil))) po_none) (pa_cons pe_bl pa_nil)))))
        pss_nil)
      (pss_one (ps_ret pe_non)))), ?_⟩
    try dsimp only [cxOf, Cx.nox, Cx.wish]
    fail "go"
    rw [cutW_to]
    refine itd (fun e => ?_) fun e => ?_
    · fail "go"
      rw [cutW_from]
      refine fun p hp => ?_
      refine (q1 _ _ ?_).at (Same.refl _) hp
      unfold step left
      rw [if_pos (List.isPrefixOf_iff_prefix.mpr (List.prefix_iff_eq_take.mpr e.symm))]
    · fail "go"
      rw [cutW_to]
      have n1 : left a b = none := if_neg (fun z => e (List.prefix_iff_eq_take.mp (List.isPrefixOf_iff_prefix.mp z)).symm)
      refine itd (fun e2 => ?_) fun e2 => ?_
      · fail "go"
        rw [cutW_from]
        refine fun p hp => ?_
        refine (q1 _ _ ?_).at (Same.refl _) hp
        unfold step
        rw [n1]
        unfold left
        rw [if_pos (List.isPrefixOf_iff_prefix.mpr (List.prefix_iff_eq_take.mpr e2.symm))]
      · have n2 : left b a = none := if_neg (fun z => e2 (List.prefix_iff_eq_take.mp (List.isPrefixOf_iff_prefix.mp z)).symm)
        exact q0 (by unfold step; rw [n1, n2]) _ (Same.refl _)

abbrev s_law_shared : Stmt := top 35
theorem sc_law_shared : FnScope ["_law_one", "_law_other", "_law_many"] ["_law_one", "_law_other"] (defScope s_law_shared) := ⟨rfl, rfl, rfl, by decide +kernel, rfl, by decide +kernel, by decide +kernel⟩
theorem ok_law_shared (B : Bi mg) (D : Def K mg "_law_shared" s_law_shared) : Cal P w K mg base CX0 "_law_shared" 1 ["_law_one", "_law_other"] sp_shared := by
  have nd := sc_law_shared.nd
  refine D.cal sc_law_shared (fun _ _ _ _ _ _ us hl => match us, hl with | [_, _], _ => rfl) (fun vs H Q E h => ?_) (fun f cdv A outer s H vs Q E hr h => ?_)
  · obtain ⟨_, _, rfl, _⟩ := h
    rfl
  · obtain ⟨a, b, rfl, ha, hb, q⟩ := h
    refine ⟨_, PSs.nox (pss_cons (ps_set (i := 2) nd rfl (.inl rfl) pe_int)
      (pss_cons (ps_while PassesOwn.never (PW.pt (pw_and (pt_cmpR op_lt (pv 2) (pe_callB (call_min2 rfl) (by rfl) B.min (by decide +kernel) (pa_cons (pe_callB call_lenw (by rfl) B.len PySem.boot_len (pa_cons (pv 0) pa_nil)) (pa_cons (pe_callB call_lenw (by rfl) B.len PySem.boot_len (pa_cons (pv 1) pa_nil)) pa_nil))) (nomark _)) (pw_and1 (pt_cmpR op_eqw (pe_ix ix_w (pv 0) (pv 2) (fun _ _ => rfl)) (pe_ix ix_w (pv 1) (pv 2) (fun _ _ => rfl)) (nomark _)))))
        (pss_one (ps_set (i := 2) nd rfl (.inl rfl) (pe_op op_add (pv 2) pe_int))))
      (pss_one (ps_ret (pv 2))))), ?_⟩
    try dsimp only [cxOf, Cx.nox, Cx.wish]
    refine ⟨fun m σ H' => ∃ i : Nat, σ = [some (sv a), some (sv b), some (.int i)] ∧ H' = H ∧ m = a.length - i ∧ shr a b = i + shr (a.drop i) (b.drop i), ⟨_, 0, rfl, rfl, rfl, by simp⟩, ?_⟩
    rintro m σ H' ⟨i, rfl, rfl, rfl, e⟩
    have out : shr (a.drop i) (b.drop i) = 0 → Q (.int (i : Nat)) H' := fun z => by
      rw [e, z] at q
      exact q
    fail "go"
    refine itd (fun e1 => ?_) fun e1 => ?_
    · have h1 : i < a.length := by split at e1 <;> omega
      have h2 : i < b.length := by split at e1 <;> omega
      have d1 : a.drop i = a[i] :: a.drop (i + 1) := (List.getElem_cons_drop h1).symm
      have d2 : b.drop i = b[i] :: b.drop (i + 1) := (List.getElem_cons_drop h2).symm
      rw [d1, d2] at e out
      have g1 : a[((i : Nat) : Int).toNat]? = some a[i] := by simp [h1]
      have g2 : b[((i : Nat) : Int).toNat]? = some b[i] := by simp [h2]
      fail "go"
      refine itd (fun e3 => ?_) fun e3 => ?_
      · refine ⟨fun σ' H2 => ∃ m', m' < a.length - i ∧ ∃ i : Nat, σ' = [some (sv a), some (sv b), some (.int i)] ∧ H2 = H' ∧ m' = a.length - i ∧ shr a b = i + shr (a.drop i) (b.drop i), fun _ _ h => h, ?_⟩
        fail "go"
        refine ⟨a.length - (i + 1), by omega, i + 1, rfl, rfl, rfl, ?_⟩
        rw [shr_cons, if_pos (by simpa using e3)] at e
        omega
      · fail "go"
        refine out ?_
        rw [shr_cons, if_neg (by simpa using e3)]
    · fail "go"
      refine out ?_
      by_cases h : a.length ≤ i
      · rw [List.drop_of_length_le (l := a) h]; rfl
      · rw [List.drop_of_length_le (l := b) (by split at e1 <;> omega)]
        cases a.drop i <;> rfl

theorem mx (a b : Nat) : (if (b : Int) > (a : Int) then (b : Int) else (a : Int)) = ((max a b : Nat) : Int) := by
  by_cases h : (b : Int) > a
  · rw [if_pos h]; omega
  · rw [if_neg h]; omega
abbrev s_law_height : Stmt := top 36
theorem sc_law_height : FnScope ["_law_words_here", "_law_rest", "_law_found", "_law_best", "_law_word_here", "_law_step_here"] ["_law_words_here", "_law_rest", "_law_found"] (defScope s_law_height) := ⟨rfl, rfl, rfl, by decide +kernel, rfl, by decide +kernel, by decide +kernel⟩
def sp_law_height : Sp := fun vs H Q _ => ∃ (p d : Addr) (r : Wd), vs = [.ref p, sv r, .ref d] ∧ ∃ (ws R P : List Wd) (h : Wd → Nat), H p = some (.lst (ws.map sv)) ∧ Rd H d (.dK (hD R P h)) ∧ Code ws ∧ r ∈ R ∧ (∀ r ∈ R, r.length ≤ 10) ∧ (∀ r ∈ R, ∀ w ∈ ws, ∀ s, tgt r w = some s → s ∈ R) ∧ Hts ws R P h ∧ Ret H Q (hgt P h r)
theorem ok_law_height (B : Bi mg) (D : Def K mg "_law_height" s_law_height) (c_law_step : Cal P w K mg base CX0 "_law_step" 1 ["_law_rest", "_law_word_here"] sp_stepped) (c_law_shared : Cal P w K mg base CX0 "_law_shared" 1 ["_law_one", "_law_other"] sp_shared) : Cal P w K mg base CX0 "_law_height" 2 ["_law_words_here", "_law_rest", "_law_found"] sp_law_height := by
  have nd := sc_law_height.nd
  refine D.cal sc_law_height (fun _ _ _ _ _ _ us hl => match us, hl with | [_, _, _], _ => rfl) (fun vs H Q E h => ?_) (fun f cdv A outer s H vs Q E hr h => ?_)
  · obtain ⟨_, _, _, rfl, _⟩ := h
    rfl
  · obtain ⟨p, d, r, rfl, ws, R, P, h, hp, hd, c, rR, r10, cl, ht, q⟩ := h
    refine ⟨_, PSs.nox (pss_cons (ps_set (i := 3) nd rfl (.inl rfl) pe_int)
      (pss_cons (ps_for PassesOwn.never rfl (pi_list (pv 0)) (pg_name (i := 4) nd rfl (.inl rfl))
        (pss_cons (ps_set (i := 5) nd rfl (.inl rfl) (pe_cal c_law_step hr (pa_cons (pv 1) (pa_cons (pv 4) pa_nil))))
        (pss_one (ps_if (pt_cmpR op_isN (pv 5) pe_non (nomark _))
          (pss_one (ps_set (i := 3) nd rfl (.inl rfl) (pe_callB (call_max2 rfl) (by rfl) B.max (by decide +kernel) (pa_cons (pv 3) (pa_cons (pe_cal c_law_shared hr (pa_cons (pv 1) (pa_cons (pv 4) pa_nil))) pa_nil)))))
          (pss_one (ps_if (pt_cmp (pc_dniN (hu_of hr) (pe_ix (r := rIxTn K) ix_t (pv 5) pe_int (fun _ _ => rfl)) (pv 2)))
            (pss_one (ps_ret (pe_un un_neg pe_int)))
            (pss_one (ps_if (pt_cmpR op_isN (pe_dgetN (hu_of hr) (pv 2) (pe_ix (r := rIxTn K) ix_t (pv 5) pe_int (fun _ _ => rfl)) (fun _ _ => rfl)) pe_non (nomark _))
              (pss_one (ps_ret pe_non))
              (pss_one (ps_if (pt_val (pe_ix (r := rIxTn K) ix_t (pv 5) pe_int (fun _ _ => rfl)))
                (pss_one (ps_set (i := 3) nd rfl (.inl rfl) (pe_callB (call_max2 rfl) (by rfl) B.max (by decide +kernel) (pa_cons (pv 3) (pa_cons (pe_op op_add (pe_callB call_lenw (by rfl) B.len PySem.boot_len (pa_cons (pv 1) pa_nil)) (pe_dgetN (hu_of hr) (pv 2) (pe_ix (r := rIxTn K) ix_t (pv 5) pe_int (fun _ _ => rfl)) (fun _ _ => rfl))) pa_nil)))))
                (pss_one (ps_set (i := 3) nd rfl (.inl rfl) (pe_callB (call_max2 rfl) (by rfl) B.max (by decide +kernel) (pa_cons (pv 3) (pa_cons (pe_op op_add (pe_callB call_lenw (by rfl) B.len PySem.boot_len (pa_cons (pv 4) pa_nil)) (pe_dgetN (hu_of hr) (pv 2) (pe_ix (r := rIxTn K) ix_t (pv 5) pe_int (fun _ _ => rfl)) (fun _ _ => rfl))) pa_nil)))))))))))))))
      (pss_one (ps_ret (pv 3))))), ?_⟩
    try dsimp only [cxOf, Cx.nox, Cx.wish]
    have r1 := r10 r rR
    fail "gi"
    rcases hd with hd | ⟨o, hd⟩
    all_goals
      refine for_wl (xs := ws) (j := 4) (fun pre σ' H' => ∃ (y4 y5 : Option V), σ' = [some (.ref p), some (sv r), some (.ref d), some (.int (most (pre.map (wval h r)) : Nat)), y4, y5] ∧ Same H H' ∧ ∀ w ∈ pre, ∀ s, tgt r w = some s → s ∈ P) ⟨_, _, rfl, Same.refl _, fun _ h => by cases h⟩ ?_ ?_ ?_
      · rintro pre σ' H' ⟨y4, y5, rfl, b1, b2⟩
        exact SqL.of (b1 _ _ hp)
      · rintro pre w' post σ' H' ex ⟨y4, y5, rfl, b1, b2⟩
        have hw : w' ∈ ws := by rw [ex]; exact List.mem_append_right _ List.mem_cons_self
        have wl := c.len hw
        have hd1 := b1 _ _ hd
        have em : most ((pre ++ [w']).map (wval h r)) = max (most (pre.map (wval h r))) (wval h r w') := by rw [List.map_append]; exact most_snoc _ _
        have e0 : step r w' = none → wval h r w' = shr r w' := fun e => by unfold wval; rw [e]
        have e1 : ∀ s, step r w' = some (s, true) → wval h r w' = r.length + h s := fun s e => by unfold wval; rw [e]
        have e2 : ∀ s, step r w' = some (s, false) → wval h r w' = w'.length + h s := fun s e => by unfold wval; rw [e]
        fail "gi"
        refine ⟨fun e => ?_, fun s k e => ?_⟩
        · have b2' : ∀ w ∈ pre ++ [w'], ∀ s, tgt r w = some s → s ∈ P := fun w hw s ts => by
            rcases List.mem_append.mp hw with h | h
            · exact b2 w h s ts
            · rw [List.mem_singleton.mp h] at ts
              unfold tgt at ts
              rw [e] at ts; cases ts
          fail "gi"
          rename_i H5 s5
          rw [em, e0 e, ← mx]
          exact ⟨_, _, rfl, b1.trans s5, b2'⟩
        · have ts : tgt r w' = some s := by unfold tgt; rw [e]; rfl
          have sR := cl r rR w' hw s ts
          have lv := hD_val (P := P) (h := h) sR
          by_cases sP : s ∈ P
          · have b2' : ∀ w ∈ pre ++ [w'], ∀ s, tgt r w = some s → s ∈ P := fun w hw s' ts' => by
              rcases List.mem_append.mp hw with h | h
              · exact b2 w h s' ts'
              · rw [List.mem_singleton.mp h, ts] at ts'
                rw [← Option.some.inj ts']; exact sP
            rw [show hgt P h s = .int (h s : Nat) from if_pos sP] at lv
            fail "gi"
            rename_i p6 H5 s5 n6 h6
            rw [lv]
            cases k with
            | true =>
              fail "gi"
              rw [em, e1 s e, ← mx]
              exact ⟨_, _, rfl, b1.trans s5, b2'⟩
            | false =>
              fail "gi"
              rw [em, e2 s e, ← mx]
              exact ⟨_, _, rfl, b1.trans s5, b2'⟩
          · have rP : r ∉ P := fun z => by
              obtain ⟨_, g⟩ := (ht.iff r).mp z
              cases g with
              | mk g => exact sP ((ht.iff s).mpr ⟨sR, g w' hw s ts⟩)
            rw [show hgt P h s = .non from if_neg sP] at lv
            have e3 : hgt P h r = .non := if_neg rP
            rw [e3] at q
            fail "gi"
            rename_i p6 H5 s5 n6 h6
            rw [lv]
            fail "gi"
            exact q _ (b1.trans s5)
      · rintro σ' H' ⟨y4, y5, rfl, b1, b2⟩
        have rP : r ∈ P := (ht.iff r).mpr ⟨rR, .mk fun w hw s ts => ((ht.iff s).mp (b2 w hw s ts)).2⟩
        fail "gi"
        have e : hgt P h r = .int (most (ws.map (wval h r)) : Nat) := by
          unfold hgt
          rw [if_pos rP, ht.val r rP]; rfl
        rw [e] at q
        exact q _ b1
theorem hD_same {ws : List Wd} {E E' : Tb} {P P' : List Wd} {h h' : Wd → Nat} (t : Lst ws E) (t' : Lst ws E') (a : Hts ws (keysT E) P h) (b : Hts ws (keysT E') P' h') :
    (hD (keysT E) P h).length = (hD (keysT E') P' h').length ∧ ∀ p ∈ hD (keysT E) P h, valV (hD (keysT E') P' h') p.1 = some p.2 ∧ flatB p.2 = true := by
  refine ⟨?_, fun p hp => ?_⟩
  · unfold hD
    rw [List.length_map, List.length_map]
    exact Nat.le_antisymm (nd_len t.nd fun r => t.keys t' r) (nd_len t'.nd fun r => t'.keys t r)
  · obtain ⟨r, hr, rfl⟩ := List.mem_map.mp hp
    have hr' := t.keys t' r hr
    have e : hgt P' h' r = hgt P h r := by
      unfold hgt
      by_cases z : r ∈ P
      · have g := ((a.iff r).mp z).2
        rw [if_pos z, if_pos ((b.iff r).mpr ⟨hr', g⟩), a.uniq b t.tgt t'.tgt r g hr hr']
      · rw [if_neg z, if_neg (fun y => z ((a.iff r).mpr ⟨hr, ((b.iff r).mp y).2⟩))]
    refine ⟨by rw [hD_val hr', e], ?_⟩
    show flatB (hgt P h r) = true
    unfold hgt
    split <;> rfl
abbrev s_law : Stmt := top 37
theorem sc_law : FnScope ["_law_script", "_law_words_here", "_law_handed", "_law_rests", "_law_found", "_law_rest", "_law_due", "_law_kept"] ["_law_script"] (defScope s_law) := ⟨rfl, rfl, rfl, by decide +kernel, rfl, by decide +kernel, by decide +kernel⟩
def sp_law (K : PySem.W.Frag) : Sp := fun vs H Q _ => ∃ (a : Addr) (ns : List Int), vs = [.ref a] ∧ SqL K H a (ns.map V.int) ∧ ns.length ≤ 63 ∧ ∀ H', Q (.bl true) H'
theorem ok_law {fl : Addr} {fd : FuncData} (B : Bi mg) (F : FunD K "law" "law" (defArgs s_law) (defBody s_law) (defScope s_law) [] [] fl fd) (c_law_words : Cal P w K mg base CX0 "_law_words" 4 ["_law_script", "_law_first"] (sp_law_words K)) (c_least : Cal P w K mg base CX0 "least" 6 ["words"] sp_least) (c_heights : Cal P w K mg base CX0 "heights" 6 ["words"] sp_heights) (c_law_height : Cal P w K mg base CX0 "_law_height" 2 ["_law_words_here", "_law_rest", "_law_found"] sp_law_height) (c_law_whole : Cal P w K mg base CX0 "_law_whole" 1 ["_law_found"] sp_law_whole) : FnOk P w K mg base CX0 7 fl fd ["_law_script"] (sp_law K) := by
  have nd := sc_law.nd
  refine F.ok sc_law (fun vs H Q E h => ?_) (fun cdv A outer s H vs Q E hr h => ?_)
  · obtain ⟨_, _, rfl, _⟩ := h
    rfl
  · obtain ⟨sa, ns, rfl, hS, _, q⟩ := h
    refine ⟨_, PSs.nox (pss_cons (ps_set (i := 1) nd rfl (.inl rfl) (pe_cal c_law_words hr (pa_cons (pv 0) (pa_cons pe_int pa_nil))))
      (pss_cons (ps_set (i := 2) nd rfl (.inl rfl) (pe_callTy (r := rListOf K) call_listl (by rfl) B.list (by decide +kernel) (pa_cons (pv 1) pa_nil)))
      (pss_cons (ps_set (i := 3) nd rfl (.inl rfl) (pe_cal c_least hr (pa_cons (pe_callTy (r := rListOf K) call_listl (by rfl) B.list (by decide +kernel) (pa_cons (pv 1) pa_nil)) pa_nil)))
      (pss_cons (ps_set (i := 4) nd rfl (.inl rfl) (pe_cal c_heights hr (pa_cons (pv 2) pa_nil)))
      (pss_cons (ps_if (PW.pt (pw_or (pt_not (pt_val (pe_callB (call_is .dict) (by rfl) B.isinstance (by decide +kernel) (pa_cons (pv 4) (pa_cons (pe_ty .dict (by rfl) B.dict (by decide +kernel)) pa_nil))))) (pw_or (pt_cmpR (r := rNeP K) (op_nep hr.units) (pe_callB (r := rSortedDA) (call_sortedDA rfl) (by rfl) B.sorted (by decide +kernel) (pa_cons (pv 4) pa_nil)) (pe_callB (r := rSortedDA) (call_sortedDA rfl) (by rfl) B.sorted (by decide +kernel) (pa_cons (pv 3) pa_nil)) (nomark _)) (pw_or1 (pt_cmpR (r := rNeP K) (op_nep hr.units) (pv 2) (pv 1) (nomark _))))))
        (pss_one (ps_ret pe_bl))
        pss_nil)
      (pss_cons (ps_lock (ps_for PassesOwn.never rfl (pi_keys (pv 4)) (pg_name (i := 5) nd rfl (.inl rfl))
        (pss_cons (ps_set (i := 6) nd rfl (.inl rfl) (pe_cal c_law_height hr (pa_cons (pv 1) (pa_cons (pv 5) (pa_cons (pv 4) pa_nil)))))
        (pss_cons (ps_if (PW.pt (pw_and (pt_cmpR op_isN (pv 6) pe_non (nomark _)) (pw_and1 (pt_cmpR op_notN (pe_dgetN (hu_of hr) (pv 4) (pv 5) (fun _ _ => rfl)) pe_non (nomark _)))))
          (pss_one (ps_ret pe_bl))
          pss_nil)
        (pss_one (ps_if (PW.pt (pw_and (pt_cmpR op_notN (pv 6) pe_non (nomark _)) (pw_and1 (PW.pt (pw_or (pt_not (pt_val (pe_cal c_law_whole hr (pa_cons (pe_dgetN (hu_of hr) (pv 4) (pv 5) (fun _ _ => rfl)) pa_nil)))) (pw_or1 (pt_cmpR op_ne (pe_dgetN (hu_of hr) (pv 4) (pv 5) (fun _ _ => rfl)) (pv 6) (nomark _))))))))
          (pss_one (ps_ret pe_bl))
          pss_nil))))))
      (pss_cons (ps_set (i := 7) nd rfl (.inl rfl) (pe_callTy (r := rDictOf) call_dictn (by rfl) B.dict (by decide +kernel) (pa_cons (pv 4) pa_nil)))
      (pss_cons (ps_expr (pe_bm0 PySem.F.plainAttrs_dict PySem.F.slot_dict_clear PySem.F.type_dict_clear mt_dclrn (pv 4)))
      (pss_one (ps_ret (pe_and (pe_cmpR (r := rEqDN) (op_eqdn (hu_of hr)) (pe_cal c_heights hr (pa_cons (pv 2) pa_nil)) (pv 7) (nomark _)) (pe_one (pe_cmpR (r := rEqP K) (op_eqp hr.units) (pv 2) (pv 1) (nomark _)))))))))))))), ?_⟩
    try dsimp only [cxOf, Cx.nox, Cx.wish]
    fail "gi"
    intro ws c
    have o1 := ok_strs ws
    fail "gi"
    intro E tL
    fail "gi"
    rename_i pw H1 s1 npw hpw ph nph p3 np3 pd H2 s2 npd hpd
    have sA : Same H1 H2 := (new nph).trans ((new np3).trans s2)
    have hw2 := sA _ _ hpw
    have hh2 : H2 ph = some (.lst (ws.map sv)) := s2 _ _ (new np3 _ _ L2.upd_same)
    clear s2 npd np3
    intro E2 P h t2 ht
    fail "gi"
    rename_i pf H3 s3 npf hpf
    have hf4 := hpf
    refine ⟨keysT E2, hD_keys _ _ _, by rw [keys_len]; have := t2.len; omega, fun ys1 py1 so1 p4 n4 => ?_⟩
    have hd4 : L2.upd H3 p4 (.lst (ys1.map sv)) pd = some (.dK (dE E)) := new n4 _ _ (s3 _ _ hpd)
    fail "gi"
    refine ⟨keysT E, keys_dE E, by rw [keys_len]; have := tL.len; omega, fun ys2 py2 so2 p5 n5 => ?_⟩
    have oy1 := ok_strs ys1
    have oy2 := ok_strs ys2
    have hw5 : L2.upd (L2.upd H3 p4 (.lst (ys1.map sv))) p5 (.lst (ys2.map sv)) pw = some (.lst (ws.map sv)) := new n5 _ _ (new n4 _ _ (s3 _ _ hw2))
    have hh5 : L2.upd (L2.upd H3 p4 (.lst (ys1.map sv))) p5 (.lst (ys2.map sv)) ph = some (.lst (ws.map sv)) := new n5 _ _ (new n4 _ _ (s3 _ _ hh2))
    have hf5 : L2.upd (L2.upd H3 p4 (.lst (ys1.map sv))) p5 (.lst (ys2.map sv)) pf = some (.dK (hD (keysT E2) P h)) := new n5 _ _ (new n4 _ _ hpf)
    fail "gi"
    have ey : ys1 = ys2 := by
      refine sorted_uniq (py1.trans (List.Perm.trans ?_ py2.symm)) so1 so2
      exact (List.perm_ext_iff_of_nodup t2.nd tL.nd).mpr fun r => ⟨t2.keys tL r, tL.keys t2 r⟩
    rw [eqv_strs]
    refine itn (fun e => absurd ey e) fun _ => ?_
    fail "gi"
    rw [eqv_strs]
    refine itn (fun e => absurd rfl e) fun _ => ?_
    have npf5 : H pf = none := (s1.trans sA).free npf
    have wf : pw ≠ pf := (ne_free npf hw2).symm
    have xf : ph ≠ pf := (ne_free npf hh2).symm
    generalize L2.upd (L2.upd H3 p4 (.lst (ys1.map sv))) p5 (.lst (ys2.map sv)) = H5 at *
    fail "gi"
    refine ⟨pf, _, hf5, trivial, fun od => ?_⟩
    have fL : L2.upd H5 pf (.frz od (.dK (hD (keysT E2) P h))) pf = some (.frz od (.dK (hD (keysT E2) P h))) := L2.upd_same
    have wL : L2.upd H5 pf (.frz od (.dK (hD (keysT E2) P h))) pw = some (.lst (ws.map sv)) := by rw [upd_ne wf]; exact hw5
    have back : ∀ H'', Same (L2.upd H5 pf (.frz od (.dK (hD (keysT E2) P h)))) H'' → Same H5 (L2.upd H'' pf (.dK (hD (keysT E2) P h))) := fun H'' => unlock hf5
    revert fL wL back
    generalize L2.upd H5 pf (.frz od (.dK (hD (keysT E2) P h))) = HL
    intro fL wL back
    fail "gi"
    refine keys_in (od := od) (j := 5) (hD_keys _ _ _) fL (fun pre σ' H' => ∃ (y5 y6 : Option V), σ' = [some (.ref sa), some (.ref pw), some (.ref ph), some (.ref pd), some (.ref pf), y5, y6, none] ∧ Same HL H') ⟨_, _, rfl, Same.refl _⟩ ?_ ?_ ?_
    · rintro pre σ' H' ⟨y5, y6, rfl, b1⟩
      exact b1 _ _ fL
    · rintro pre r post σ' H' ex ⟨y5, y6, rfl, b1⟩
      have rR : r ∈ keysT E2 := by rw [ex]; exact List.mem_append_right _ List.mem_cons_self
      have hw6 := b1 _ _ wL
      have hf6 := b1 _ _ fL
      have lv := hD_val (P := P) (h := h) rR
      fail "gi"
      refine ⟨ws, keysT E2, P, h, hw6, .inr ⟨_, hf6⟩, c, rR, t2.ten, t2.tgt, ht, ?_⟩
      by_cases rP : r ∈ P
      · have eh : hgt P h r = .int (h r : Nat) := if_pos rP
        rw [eh] at lv ⊢
        fail "gi"
        rename_i H7 s7
        dsimp only
        refine itn (fun e => absurd rfl e) fun _ => ?_
        fail "gi"
        exact b1.trans s7
      · have eh : hgt P h r = .non := if_neg rP
        rw [eh] at lv ⊢
        fail "gi"
        rename_i H7 s7
        exact b1.trans s7
    · rintro σ' H' ⟨y5, y6, rfl, b1⟩
      refine ⟨b1 _ _ fL, ?_⟩
      have s6 := back _ b1
      have hf6 : L2.upd H' pf (.dK (hD (keysT E2) P h)) pf = some (.dK (hD (keysT E2) P h)) := L2.upd_same
      generalize L2.upd H' pf (.dK (hD (keysT E2) P h)) = H6 at *
      have hw6 := s6 _ _ hw5
      have hh6 := s6 _ _ hh5
      fail "gi"
      rename_i pk npk
      have kf : pk ≠ pf := ne_free npk hf6
      have hh7 : L2.upd (L2.upd H6 pk (.dK (hD (keysT E2) P h))) pf (.dK []) ph = some (.lst (ws.map sv)) := by rw [upd_ne xf]; exact new npk _ _ hh6
      have hw7 : L2.upd (L2.upd H6 pk (.dK (hD (keysT E2) P h))) pf (.dK []) pw = some (.lst (ws.map sv)) := by rw [upd_ne wf]; exact new npk _ _ hw6
      have hk7 : L2.upd (L2.upd H6 pk (.dK (hD (keysT E2) P h))) pf (.dK []) pk = some (.dK (hD (keysT E2) P h)) := by rw [upd_ne kf]; exact L2.upd_same
      generalize L2.upd (L2.upd H6 pk (.dK (hD (keysT E2) P h))) pf (.dK []) = H8 at *
      intro E3 P3 h3 t3 ht3
      obtain ⟨d1, d2⟩ := hD_same t3 t2 ht3 ht
      fail "gi"
      have ev : PyData.eqv (.list (ws.map fun a => PyData.str (S a))) (.list (ws.map fun a => PyData.str (S a))) = true := (eqv_strs ws ws).trans (decide_eq_true rfl)
      rw [ev]
      exact q _

end
end One


set_option Elab.async false
set_option linter.all false
set_option maxRecDepth 100000
set_option maxHeartbeats 400000
set_option pp.maxSteps 700
namespace One
open PySem PySem.Spec PyProof.Rows L2
local macro_rules | `(tactic| fail "as") => `(tactic| with_reducible assumption)
local macro_rules | `(tactic| fail "same") => `(tactic| first
  | with_reducible exact Same.refl _
  | fail "as"
  | ((with_reducible show Same _ (upd _ _ _)); first
    | exact Same.trans (by fail "same") (new (by fail "as"))
    | exact mutd (by fail "same") (by fail "fr"))
  | ((with_reducible refine Same.trans ?_ (by fail "as")); fail "same"))
local macro_rules | `(tactic| fail "fr") => `(tactic| first
  | fail "as"
  | ((with_reducible refine Same.free ?_ (by fail "as")); fail "same"))
local macro_rules | `(tactic| fail "look") => `(tactic| first
  | ((with_reducible show upd _ _ _ _ = _); first
    | with_reducible exact upd_same
    | with_reducible exact upd_nil
    | with_reducible exact upd_snoc
    | ((with_reducible refine upd_at (by fail "as") ?_); fail "look")
    | ((with_reducible refine new_at (by fail "fr") ?_); fail "look"))
  | fail "as"
  | ((with_reducible refine same_at (by fail "as") ?_); fail "look")
  | ((with_reducible refine same_at ?_ (by fail "as")); fail "same"))
local macro_rules | `(tactic| fail "ne") => `(tactic| (refine ne_free (by fail "as") (by fail "look")))
local macro_rules | `(tactic| fail "seq") => `(tactic| first
  | fail "as"
  | ((with_reducible show SqL _ _ _ _); with_reducible exact SqL.of (by fail "look"))
  | ((with_reducible show SqT _ _ _ _); with_reducible exact SqT.of (by fail "look"))
  | ((with_reducible refine Same.seq ?_ (by fail "as")); fail "same")
  | ((with_reducible refine sqT ?_ (by fail "as")); fail "same"))
local macro_rules | `(tactic| fail "ins") => `(tactic| ((with_reducible show _ = some (HO.ins _ _ _)); fail "look"))
local macro_rules | `(tactic| fail "sq") => `(tactic| first
  | ((with_reducible show Rd _ _ _); first | exact .inl (by fail "look") | exact .inr ⟨_, by fail "look"⟩)
  | ((with_reducible show SqL _ _ _ _); fail "seq")
  | ((with_reducible show SqT _ _ _ _); fail "seq")
  | ((with_reducible show _ = some _); fail "look"))
local macro_rules | `(tactic| fail "le") => `(tactic| first
  | fail "as"
  | with_reducible exact sz (by simp)
  | ((try simp only [List.length_append, List.length_cons, List.length_nil, List.length_map, List.length_replicate, List.length_set]); omega)
  | exact Int.emod_nonneg _ (by omega)
  | decide)
local macro_rules | `(tactic| fail "lf") => `(tactic| first
  | fail "as"
  | ((with_reducible show _ = _); exact rfl)
  | ((with_reducible show _ ≤ _); fail "le")
  | ((with_reducible show _ < _); first | decide | fail "as" | omega)
  | fail "sq"
  | ((with_reducible show CDiv _ _); exact ⟨by decide, by decide⟩)
  | ((with_reducible show CMul _ _); first | exact .inl ⟨by decide, by decide⟩ | exact .inr ⟨by decide, by decide⟩ | exact .inl ⟨by omega, by omega⟩ | exact .inr ⟨by omega, by omega⟩)
  | exact ⟨_, rfl⟩
  | exact ⟨_, by fail "sq"⟩
  | exact tyL (by fail "seq")
  | exact tyD (by fail "look")
  | (refine ⟨?_, ?_, ?_, ?_⟩ <;> omega)
  | (show (0 : Int) < _; first | decide | omega)
  | (show (_ : Int) ≠ 0; first | decide | omega))
local macro_rules | `(tactic| fail "dp") => `(tactic| first
  | exact .str _ | exact .int _ | exact .bl _ | exact .non
  | exact .tup (by fail "seq") (by fail "dps")
  | exact .lst (by fail "seq") (by fail "dps"))
local macro_rules | `(tactic| fail "dps") => `(tactic| first
  | fail "as"
  | with_reducible exact dpAll_strs _
  | with_reducible exact dpAll_ints _
  | ((with_reducible show DpAll _ _ (_ :: _) _); exact .cons (by fail "dp") (by fail "dps"))
  | exact .nil)
local macro_rules | `(tactic| fail "dpS") => `(tactic| ((with_reducible show Dp _ _ _ _); fail "dp"))
local macro_rules | `(tactic| fail "ga") => `(tactic| ((with_reducible show _ = some _); fail "as"))
local macro_rules | `(tactic| fail "gE") => `(tactic| first
  | with_reducible refine ⟨_, _, _, _, _, rfl, by fail "ins", by fail "as", by fail "as", rfl, ?_⟩
  | with_reducible refine ⟨_, _, _, _, rfl, by fail "ins", by fail "as", by fail "as", Nat.le_of_ble_eq_true rfl, ?_⟩
  | with_reducible refine ⟨_, _, _, rfl, by fail "ins", rfl, ?_⟩
  | with_reducible refine ⟨_, by fail "dpS", ?_⟩
  | refine ⟨_, kI _, ?_⟩
  | refine ⟨_, kS _, ?_⟩
  | refine ⟨_, by fail "ga", ?_⟩
  | refine ⟨_, rfl, ?_⟩
  | refine ⟨_, _, rfl, rfl, ?_⟩
  | refine ⟨_, _, rfl, ?_⟩
  | refine ⟨_, _, _, rfl, ?_⟩
  | refine ⟨_, _, _, _, rfl, ?_⟩
  | refine ⟨_, rfl, rfl, ?_⟩
  | refine ⟨_, _, _, rfl, rfl, ?_⟩
  | refine ⟨_, by fail "sq", ?_⟩
  | refine ⟨_, _, rfl, by fail "sq", rfl, ?_⟩
  | refine ⟨_, TyW.int _, ?_⟩
  | refine ⟨_, TyW.str _, ?_⟩
  | refine ⟨_, TyW.non, ?_⟩
  | refine ⟨_, TyW.bl _, ?_⟩
  | refine ⟨_, TyW.tup (by fail "look"), ?_⟩
  | refine ⟨_, TyW.lst (by fail "look"), ?_⟩
  | refine ⟨_, TyW.dict (by fail "look"), ?_⟩)
local macro_rules | `(tactic| fail "g1") => `(tactic| first
  | (refine (show ∃ _, _ from ?_); fail "gE")
  | (refine (show _ ∧ _ from ?_); refine And.intro (by fail "lf") ?_))
local macro_rules | `(tactic| fail "go") => `(tactic| repeat (fail "g1"))
local macro_rules | `(tactic| fail "gi") => `(tactic| repeat (first
  | fail "g1"
  | refine (show Ret _ _ _ from fun H' s' => ?_)
  | refine (show RetL _ _ _ from fun p H' s' np hp => ?_)
  | refine (show RetT _ _ _ from fun p H' s' np hp => ?_)
  | refine (show RetD _ _ _ from fun p H' s' np hp => ?_)
  | refine (show ∀ p : Addr, _ = none → _ from fun p hp => ?_)))
/-! ### the head -/
def dd_left_of : He.DefD := ⟨("left_of", none), "left_of", "left_of", defArgs s_left_of, defBody s_left_of, defScope s_left_of, [], []⟩
def dd_stepped : He.DefD := ⟨("stepped", none), "stepped", "stepped", defArgs s_stepped, defBody s_stepped, defScope s_stepped, [], []⟩
def dd_Table_offer : He.DefD := ⟨("Table", some "offer"), "offer", "Table.offer", defArgs s_Table_offer, defBody s_Table_offer, defScope s_Table_offer, [], []⟩
def dd_Table_begin : He.DefD := ⟨("Table", some "begin"), "begin", "Table.begin", defArgs s_Table_begin, defBody s_Table_begin, defScope s_Table_begin, [], []⟩
def dd_Table_go_on : He.DefD := ⟨("Table", some "go_on"), "go_on", "Table.go_on", defArgs s_Table_go_on, defBody s_Table_go_on, defScope s_Table_go_on, [], []⟩
def dd_Table___init__ : He.DefD := ⟨("Table", some "__init__"), "__init__", "Table.__init__", defArgs s_Table___init__, defBody s_Table___init__, defScope s_Table___init__, [], []⟩
def dd_Table_spread : He.DefD := ⟨("Table", some "spread"), "spread", "Table.spread", defArgs s_Table_spread, defBody s_Table_spread, defScope s_Table_spread, [], []⟩
def dd_is_word : He.DefD := ⟨("is_word", none), "is_word", "is_word", defArgs s_is_word, defBody s_is_word, defScope s_is_word, [], []⟩
def dd_checked : He.DefD := ⟨("checked", none), "checked", "checked", defArgs s_checked, defBody s_checked, defScope s_checked, [], []⟩
def dd_table_of : He.DefD := ⟨("table_of", none), "table_of", "table_of", defArgs s_table_of, defBody s_table_of, defScope s_table_of, [], []⟩
def dd_least : He.DefD := ⟨("least", none), "least", "least", defArgs s_least, defBody s_least, defScope s_least, [], []⟩
def dd_law_at : He.DefD := ⟨("_law_at", none), "_law_at", "_law_at", defArgs s_law_at, defBody s_law_at, defScope s_law_at, [], []⟩
def dd_law_mixed : He.DefD := ⟨("_law_mixed", none), "_law_mixed", "_law_mixed", defArgs s_law_mixed, defBody s_law_mixed, defScope s_law_mixed, [], []⟩
def dd_law_whole : He.DefD := ⟨("_law_whole", none), "_law_whole", "_law_whole", defArgs s_law_whole, defBody s_law_whole, defScope s_law_whole, [], []⟩
def dd_law_signs : He.DefD := ⟨("_law_signs", none), "_law_signs", "_law_signs", defArgs s_law_signs, defBody s_law_signs, defScope s_law_signs, [], []⟩
def dd_law_word : He.DefD := ⟨("_law_word", none), "_law_word", "_law_word", defArgs s_law_word, defBody s_law_word, defScope s_law_word, [], []⟩
def dd_law_any_word : He.DefD := ⟨("_law_any_word", none), "_law_any_word", "_law_any_word", defArgs s_law_any_word, defBody s_law_any_word, defScope s_law_any_word, [], []⟩
def dd_law_more : He.DefD := ⟨("_law_more", none), "_law_more", "_law_more", defArgs s_law_more, defBody s_law_more, defScope s_law_more, [], []⟩
def dd_law_chain : He.DefD := ⟨("_law_chain", none), "_law_chain", "_law_chain", defArgs s_law_chain, defBody s_law_chain, defScope s_law_chain, [], []⟩
def dd_law_words : He.DefD := ⟨("_law_words", none), "_law_words", "_law_words", defArgs s_law_words, defBody s_law_words, defScope s_law_words, [], []⟩
def dd_shared : He.DefD := ⟨("shared", none), "shared", "shared", defArgs s_shared, defBody s_shared, defScope s_shared, [], []⟩
def dd_worth : He.DefD := ⟨("worth", none), "worth", "worth", defArgs s_worth, defBody s_worth, defScope s_worth, [], []⟩
def dd_webs_of : He.DefD := ⟨("webs_of", none), "webs_of", "webs_of", defArgs s_webs_of, defBody s_webs_of, defScope s_webs_of, [], []⟩
def dd_heights_of : He.DefD := ⟨("heights_of", none), "heights_of", "heights_of", defArgs s_heights_of, defBody s_heights_of, defScope s_heights_of, [], []⟩
def dd_heights : He.DefD := ⟨("heights", none), "heights", "heights", defArgs s_heights, defBody s_heights, defScope s_heights, [], []⟩
def dd_law_step : He.DefD := ⟨("_law_step", none), "_law_step", "_law_step", defArgs s_law_step, defBody s_law_step, defScope s_law_step, [], []⟩
def dd_law_shared : He.DefD := ⟨("_law_shared", none), "_law_shared", "_law_shared", defArgs s_law_shared, defBody s_law_shared, defScope s_law_shared, [], []⟩
def dd_law_height : He.DefD := ⟨("_law_height", none), "_law_height", "_law_height", defArgs s_law_height, defBody s_law_height, defScope s_law_height, [], []⟩
def dd_law : He.DefD := ⟨("law", none), "law", "law", defArgs s_law, defBody s_law, defScope s_law, [], []⟩
def fn : List He.DefD := [dd_left_of, dd_stepped, dd_Table_offer, dd_Table_begin, dd_Table_go_on, dd_Table___init__, dd_Table_spread, dd_is_word, dd_checked, dd_table_of, dd_least, dd_law_at, dd_law_mixed, dd_law_whole, dd_law_signs, dd_law_word, dd_law_any_word, dd_law_more, dd_law_chain, dd_law_words, dd_shared, dd_worth, dd_webs_of, dd_heights_of, dd_heights, dd_law_step, dd_law_shared, dd_law_height, dd_law]
def fa : List He.Fa := [.glo "left_of", .glo "stepped", .glo "is_word", .glo "checked", .glo "table_of", .glo "least", .glo "_law_at", .glo "_law_mixed", .glo "_law_whole", .glo "_law_signs", .glo "_law_word", .glo "_law_any_word", .glo "_law_more", .glo "_law_chain", .glo "_law_words", .glo "shared", .glo "worth", .glo "webs_of", .glo "heights_of", .glo "heights", .glo "_law_step", .glo "_law_shared", .glo "_law_height", .glo "law", .free "len", .free "isinstance", .free "range", .free "sorted", .free "sum", .free "max", .free "min", .free "reversed", .free "list", .free "dict", .free "int", .free "str", .free "tuple", .free "bool", .free "enumerate", .int "MOST_SIGNS" 10, .int "MOST_WORDS" 12, .str "SIGNS" "abcdefghijklmnopqrstuvwxyz", .glo "Table", .cls "Table", .noat "Table" "lengths", .noat "Table" "came", .noat "Table" "fresh", .meth "Table" "offer", .meth "Table" "begin", .meth "Table" "go_on", .mkr "Table", .meth "Table" "spread"]
abbrev R : PySem.W.OpenRow := PySem.W.OpenLaw.row PySem.Challenge.rw_onereading_k10_heights_of_rests
abbrev hk : PySem.W.Hook := He.hookD 4 fa fn
def ob (s : PySem.W.SharedT) : He.AlD := He.obsDG 4 fa fn (HandSHeadRun.getT s)
theorem ob_eq (s : PySem.W.SharedT) : ob s = hk.obs s.abs := He.obsDG_eq (HandSHeadRun.getT_eq s)
def loose0 : List Str := ["CodeError", "BadCode", "Full", "BadWord", "Twice", "is_word", "checked", "left_of", "shared", "stepped", "Table", "table_of", "least", "worth", "webs_of", "heights_of", "heights", "_law_at", "_law_mixed", "_law_whole", "_law_signs", "_law_word", "_law_any_word", "_law_more", "_law_chain", "_law_words", "_law_step", "_law_shared", "_law_height", "SIGNS", "MOST_WORDS", "MOST_SIGNS"]
def loose : List Str := loose0
theorem run (w : World) : HandSHeadRun.RunEq R (PySem.W.view R.prog [37]) hk ob 4000 loose w := by
  intro os
  kernel_rfl
theorem facts {P : Program} {w : World} {K : PySem.W.Frag} {h : Heap} {mg : Str → Option Value} {f : Addr} (X : K.In h) (G : h.Ns mainGlobals mg) (hfa : mg ("law" : Str) = some (.ref f)) (c : He.SaysD fa fn K) :
    ∃ fd : FuncData, (∀ (s : Shared) (v : Value), BindsTo s fd ⟨[v], []⟩ [("_law_script", v)]) ∧ ∀ base : Heap, K.In base → base.Ns mainGlobals mg → FnOk P w K mg base CX0 7 f fd ["_law_script"] (sp_law K) := by
  have D_left_of : Def K mg "left_of" s_left_of := by
    obtain ⟨fd, F⟩ := c.def_ 0 (d := dd_left_of) rfl
    exact ⟨_, fd, He.glo_ok X G (c.fact 0 (f := .glo "left_of") rfl), F⟩
  have D_stepped : Def K mg "stepped" s_stepped := by
    obtain ⟨fd, F⟩ := c.def_ 1 (d := dd_stepped) rfl
    exact ⟨_, fd, He.glo_ok X G (c.fact 1 (f := .glo "stepped") rfl), F⟩
  have D_Table_offer : DefM K (He.ga K "Table") "offer" "Table.offer" s_Table_offer := by
    obtain ⟨fd, F⟩ := c.def_ 2 (d := dd_Table_offer) rfl
    exact ⟨_, fd, He.meth_ok (c.fact 47 (f := .meth "Table" "offer") rfl), F⟩
  have D_Table_begin : DefM K (He.ga K "Table") "begin" "Table.begin" s_Table_begin := by
    obtain ⟨fd, F⟩ := c.def_ 3 (d := dd_Table_begin) rfl
    exact ⟨_, fd, He.meth_ok (c.fact 48 (f := .meth "Table" "begin") rfl), F⟩
  have D_Table_go_on : DefM K (He.ga K "Table") "go_on" "Table.go_on" s_Table_go_on := by
    obtain ⟨fd, F⟩ := c.def_ 4 (d := dd_Table_go_on) rfl
    exact ⟨_, fd, He.meth_ok (c.fact 49 (f := .meth "Table" "go_on") rfl), F⟩
  have D_Table___init__ : DefI K mg (He.ga K "Table") "Table" "Table.__init__" s_Table___init__ := by
    obtain ⟨fd, F⟩ := c.def_ 5 (d := dd_Table___init__) rfl
    exact ⟨_, fd, He.mkr_ok (c.fact 50 (f := .mkr "Table") rfl), He.glo_ok X G (c.fact 42 (f := .glo "Table") rfl), F⟩
  have D_Table_spread : DefM K (He.ga K "Table") "spread" "Table.spread" s_Table_spread := by
    obtain ⟨fd, F⟩ := c.def_ 6 (d := dd_Table_spread) rfl
    exact ⟨_, fd, He.meth_ok (c.fact 51 (f := .meth "Table" "spread") rfl), F⟩
  have D_is_word : Def K mg "is_word" s_is_word := by
    obtain ⟨fd, F⟩ := c.def_ 7 (d := dd_is_word) rfl
    exact ⟨_, fd, He.glo_ok X G (c.fact 2 (f := .glo "is_word") rfl), F⟩
  have D_checked : Def K mg "checked" s_checked := by
    obtain ⟨fd, F⟩ := c.def_ 8 (d := dd_checked) rfl
    exact ⟨_, fd, He.glo_ok X G (c.fact 3 (f := .glo "checked") rfl), F⟩
  have D_table_of : Def K mg "table_of" s_table_of := by
    obtain ⟨fd, F⟩ := c.def_ 9 (d := dd_table_of) rfl
    exact ⟨_, fd, He.glo_ok X G (c.fact 4 (f := .glo "table_of") rfl), F⟩
  have D_least : Def K mg "least" s_least := by
    obtain ⟨fd, F⟩ := c.def_ 10 (d := dd_least) rfl
    exact ⟨_, fd, He.glo_ok X G (c.fact 5 (f := .glo "least") rfl), F⟩
  have D_law_at : Def K mg "_law_at" s_law_at := by
    obtain ⟨fd, F⟩ := c.def_ 11 (d := dd_law_at) rfl
    exact ⟨_, fd, He.glo_ok X G (c.fact 6 (f := .glo "_law_at") rfl), F⟩
  have D_law_mixed : Def K mg "_law_mixed" s_law_mixed := by
    obtain ⟨fd, F⟩ := c.def_ 12 (d := dd_law_mixed) rfl
    exact ⟨_, fd, He.glo_ok X G (c.fact 7 (f := .glo "_law_mixed") rfl), F⟩
  have D_law_whole : Def K mg "_law_whole" s_law_whole := by
    obtain ⟨fd, F⟩ := c.def_ 13 (d := dd_law_whole) rfl
    exact ⟨_, fd, He.glo_ok X G (c.fact 8 (f := .glo "_law_whole") rfl), F⟩
  have D_law_signs : Def K mg "_law_signs" s_law_signs := by
    obtain ⟨fd, F⟩ := c.def_ 14 (d := dd_law_signs) rfl
    exact ⟨_, fd, He.glo_ok X G (c.fact 9 (f := .glo "_law_signs") rfl), F⟩
  have D_law_word : Def K mg "_law_word" s_law_word := by
    obtain ⟨fd, F⟩ := c.def_ 15 (d := dd_law_word) rfl
    exact ⟨_, fd, He.glo_ok X G (c.fact 10 (f := .glo "_law_word") rfl), F⟩
  have D_law_any_word : Def K mg "_law_any_word" s_law_any_word := by
    obtain ⟨fd, F⟩ := c.def_ 16 (d := dd_law_any_word) rfl
    exact ⟨_, fd, He.glo_ok X G (c.fact 11 (f := .glo "_law_any_word") rfl), F⟩
  have D_law_more : Def K mg "_law_more" s_law_more := by
    obtain ⟨fd, F⟩ := c.def_ 17 (d := dd_law_more) rfl
    exact ⟨_, fd, He.glo_ok X G (c.fact 12 (f := .glo "_law_more") rfl), F⟩
  have D_law_chain : Def K mg "_law_chain" s_law_chain := by
    obtain ⟨fd, F⟩ := c.def_ 18 (d := dd_law_chain) rfl
    exact ⟨_, fd, He.glo_ok X G (c.fact 13 (f := .glo "_law_chain") rfl), F⟩
  have D_law_words : Def K mg "_law_words" s_law_words := by
    obtain ⟨fd, F⟩ := c.def_ 19 (d := dd_law_words) rfl
    exact ⟨_, fd, He.glo_ok X G (c.fact 14 (f := .glo "_law_words") rfl), F⟩
  have D_shared : Def K mg "shared" s_shared := by
    obtain ⟨fd, F⟩ := c.def_ 20 (d := dd_shared) rfl
    exact ⟨_, fd, He.glo_ok X G (c.fact 15 (f := .glo "shared") rfl), F⟩
  have D_worth : Def K mg "worth" s_worth := by
    obtain ⟨fd, F⟩ := c.def_ 21 (d := dd_worth) rfl
    exact ⟨_, fd, He.glo_ok X G (c.fact 16 (f := .glo "worth") rfl), F⟩
  have D_webs_of : Def K mg "webs_of" s_webs_of := by
    obtain ⟨fd, F⟩ := c.def_ 22 (d := dd_webs_of) rfl
    exact ⟨_, fd, He.glo_ok X G (c.fact 17 (f := .glo "webs_of") rfl), F⟩
  have D_heights_of : Def K mg "heights_of" s_heights_of := by
    obtain ⟨fd, F⟩ := c.def_ 23 (d := dd_heights_of) rfl
    exact ⟨_, fd, He.glo_ok X G (c.fact 18 (f := .glo "heights_of") rfl), F⟩
  have D_heights : Def K mg "heights" s_heights := by
    obtain ⟨fd, F⟩ := c.def_ 24 (d := dd_heights) rfl
    exact ⟨_, fd, He.glo_ok X G (c.fact 19 (f := .glo "heights") rfl), F⟩
  have D_law_step : Def K mg "_law_step" s_law_step := by
    obtain ⟨fd, F⟩ := c.def_ 25 (d := dd_law_step) rfl
    exact ⟨_, fd, He.glo_ok X G (c.fact 20 (f := .glo "_law_step") rfl), F⟩
  have D_law_shared : Def K mg "_law_shared" s_law_shared := by
    obtain ⟨fd, F⟩ := c.def_ 26 (d := dd_law_shared) rfl
    exact ⟨_, fd, He.glo_ok X G (c.fact 21 (f := .glo "_law_shared") rfl), F⟩
  have D_law_height : Def K mg "_law_height" s_law_height := by
    obtain ⟨fd, F⟩ := c.def_ 27 (d := dd_law_height) rfl
    exact ⟨_, fd, He.glo_ok X G (c.fact 22 (f := .glo "_law_height") rfl), F⟩
  have D_law : Def K mg "law" s_law := by
    obtain ⟨fd, F⟩ := c.def_ 28 (d := dd_law) rfl
    exact ⟨_, fd, He.glo_ok X G (c.fact 23 (f := .glo "law") rfl), F⟩
  have B : Bi mg := ⟨He.free_ok X G (c.fact 24 (f := .free "len") rfl), He.free_ok X G (c.fact 25 (f := .free "isinstance") rfl), He.free_ok X G (c.fact 26 (f := .free "range") rfl), He.free_ok X G (c.fact 27 (f := .free "sorted") rfl), He.free_ok X G (c.fact 28 (f := .free "sum") rfl), He.free_ok X G (c.fact 29 (f := .free "max") rfl), He.free_ok X G (c.fact 30 (f := .free "min") rfl), He.free_ok X G (c.fact 31 (f := .free "reversed") rfl), He.free_ok X G (c.fact 32 (f := .free "list") rfl), He.free_ok X G (c.fact 33 (f := .free "dict") rfl), He.free_ok X G (c.fact 34 (f := .free "int") rfl), He.free_ok X G (c.fact 35 (f := .free "str") rfl), He.free_ok X G (c.fact 36 (f := .free "tuple") rfl), He.free_ok X G (c.fact 37 (f := .free "bool") rfl), He.free_ok X G (c.fact 38 (f := .free "enumerate") rfl)⟩
  have G_MOST_SIGNS : ∃ t, mg "MOST_SIGNS" = some (.int 10 t) := He.int_ok X G (c.fact 39 (f := .int "MOST_SIGNS" 10) rfl)
  have G_MOST_WORDS : ∃ t, mg "MOST_WORDS" = some (.int 12 t) := He.int_ok X G (c.fact 40 (f := .int "MOST_WORDS" 12) rfl)
  have G_SIGNS : ∃ t, mg "SIGNS" = some (.str "abcdefghijklmnopqrstuvwxyz" t) := He.str_ok X G (c.fact 41 (f := .str "SIGNS" "abcdefghijklmnopqrstuvwxyz") rfl)
  have T_Table : TableC K (He.ga K "Table") := ⟨He.cls_ok (c.fact 43 (f := .cls "Table") rfl), He.noat_ok (c.fact 44 (f := .noat "Table" "lengths") rfl), He.noat_ok (c.fact 45 (f := .noat "Table" "came") rfl), He.noat_ok (c.fact 46 (f := .noat "Table" "fresh") rfl)⟩
  obtain ⟨f1, fd, hm, F⟩ := D_law
  have e := hfa.symm.trans hm
  cases e
  have b := FunD.bindsA (ps := ["_law_script"]) F fun _ _ _ _ _ _ us hl => match us, hl with | [_], _ => rfl
  refine ⟨fd, fun s v => b s [v] rfl, fun base _ _ => ?_⟩
  have c_left_of := ok_left_of (P := P) (w := w) (base := base) B D_left_of
  have c_stepped := ok_stepped (P := P) (w := w) (base := base) B D_stepped c_left_of
  have c_Table_offer := ok_Table_offer (P := P) (w := w) (base := base) B T_Table D_Table_offer
  have c_Table_begin := ok_Table_begin (P := P) (w := w) (base := base) B T_Table D_Table_begin c_left_of c_Table_offer
  have c_Table_go_on := ok_Table_go_on (P := P) (w := w) (base := base) B T_Table D_Table_go_on c_stepped c_Table_offer
  have c_Table___init__ := ok_Table___init__ (P := P) (w := w) (base := base) B T_Table D_Table___init__
  have c_Table_spread := ok_Table_spread (P := P) (w := w) (base := base) B T_Table D_Table_spread c_Table_go_on
  have c_is_word := ok_is_word (P := P) (w := w) (base := base) B G_MOST_SIGNS G_SIGNS D_is_word
  have c_checked := ok_checked (P := P) (w := w) (base := base) B G_MOST_WORDS D_checked c_is_word
  have c_table_of := ok_table_of (P := P) (w := w) (base := base) B T_Table D_table_of c_Table___init__ c_Table_begin c_Table_spread
  have c_least := ok_least (P := P) (w := w) (base := base) B T_Table D_least c_checked c_table_of
  have c_law_at := ok_law_at (P := P) (w := w) (base := base) B D_law_at
  have c_law_mixed := ok_law_mixed (P := P) (w := w) (base := base) B D_law_mixed
  have c_law_whole := ok_law_whole (P := P) (w := w) (base := base) B D_law_whole
  have c_law_signs := ok_law_signs (P := P) (w := w) (base := base) B D_law_signs
  have c_law_word := ok_law_word (P := P) (w := w) (base := base) B D_law_word c_law_mixed
  have c_law_any_word := ok_law_any_word (P := P) (w := w) (base := base) B D_law_any_word
  have c_law_more := ok_law_more (P := P) (w := w) (base := base) B D_law_more c_law_word
  have c_law_chain := ok_law_chain (P := P) (w := w) (base := base) B D_law_chain c_law_at c_law_mixed c_law_word
  have c_law_words := ok_law_words (P := P) (w := w) (base := base) B D_law_words c_law_at c_law_signs c_law_chain c_law_mixed c_law_word c_law_any_word c_law_more
  have c_shared := ok_shared (P := P) (w := w) (base := base) B D_shared
  have c_worth := ok_worth (P := P) (w := w) (base := base) B D_worth c_stepped c_shared
  have c_webs_of := ok_webs_of (P := P) (w := w) (base := base) B D_webs_of c_stepped
  have c_heights_of := ok_heights_of (P := P) (w := w) (base := base) B D_heights_of c_webs_of c_worth
  have c_heights := ok_heights (P := P) (w := w) (base := base) B T_Table D_heights c_checked c_table_of c_heights_of
  have c_law_step := ok_law_step (P := P) (w := w) (base := base) B D_law_step
  have c_law_shared := ok_law_shared (P := P) (w := w) (base := base) B D_law_shared
  have c_law_height := ok_law_height (P := P) (w := w) (base := base) B D_law_height c_law_step c_law_shared
  exact ok_law B F c_law_words c_least c_heights c_law_height c_law_whole
end One
open PySem PySem.W PySem.Calls PyProof.Rows
set_option maxHeartbeats 0 in
theorem PySem.Challenge.cw_onereading_k10_heights_of_rests_holds : PySem.Challenge.rw_onereading_k10_heights_of_rests.Holds := by
  w_on; o_law
  refine HandSHeadRun.head_any (r := One.R) (q := view One.R.prog [37]) (H := One.hk) (ob := One.ob) (M := 4000) (loose := One.loose) (d := HandSHeadRun.topDef One.R.prog 37) (kwd := []) One.ob_eq
    (by kernel_rfl) (fun s => by kernel_rfl) One.run (by kernel_rfl) (by kernel_rfl) (by kernel_rfl) (by rfl) (by first | assumption | decide +kernel) (by decide +kernel) ⟨rfl, rfl, rfl, rfl, rfl, by decide +kernel⟩ ?hw ?hc
  case hw => w_witness2
  case hc =>
    refine L2.walk_ofE (l := PySem.Challenge.rw_onereading_k10_heights_of_rests) (n := 63) (k := 7) (x := "_law_script") (CX := L2.CX0) rfl (by decide) (by kernel_rfl) ⟨rfl, by decide, by decide⟩ ?F (fun _ _ _ _ z => z)
    intro w mg fa h Y G hmg0
    obtain ⟨K, KX, c⟩ := Y
    have hmg : mg ("law" : PySem.Str) = some (.ref fa) := by
      have e : (HandSHeadRun.topDef One.R.prog 37).name = ("law" : PySem.Str) := by kernel_rfl
      rw [← e]
      exact hmg0
    obtain ⟨fd, hb, hF⟩ := One.facts (P := (PySem.Challenge.rw_onereading_k10_heights_of_rests).prog) (w := w) KX G hmg c
    exact ⟨K, fd, One.sp_law K, KX, hb, fun H a ns hl _ hS => ⟨a, ns, rfl, hS, hl, fun _ => rfl⟩, hF⟩

