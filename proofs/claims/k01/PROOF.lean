import PyProof.Rows.All
import Wide.All
import OpenK.AllK
import Wide.FinOn
import KE.KStateDown
import KE.DataEq
import HandS.ForMost
import HandS.Defaults
import HandS.IsInst
import HandS.RevRange
import HandS.SortKw
import HandS.Head0
import HandS.Head1
import HandS.Head2
import HandS.HeadEnd
import HandS.HeadHook1
import HandS.HeadHook2
import PySem.Challenge.RW_onereading_k01_rests_and_steps
set_option Elab.async false
set_option linter.all false
set_option maxRecDepth 100000
set_option maxHeartbeats 4000000
/-! One: a small layer over the hand layer: texts as lists of codes, defs by name, heaps that only grow. -/
namespace One
open PySem PySem.Spec PyProof.Rows L2

/-! ### texts -/
abbrev Wd := List Nat
def S (a : Wd) : Str := ⟨a.toArray⟩
abbrev sv (a : Wd) : V := .str (S a)
theorem S_len (a : Wd) : (S a).length = a.length := by
  rw [TL.len_tl]; simp [S]
theorem S_size (a : Wd) : (S a).cps.size = a.length := by simp [S]
theorem S_cps (a : Wd) : (S a).cps.toList = a := by simp [S]
theorem S_inj {a b : Wd} : S a = S b ↔ a = b := by
  constructor
  · intro h
    have := congrArg (fun x : Str => x.cps.toList) h
    simpa [S] using this
  · intro h; rw [h]
theorem sv_inj {a b : Wd} : sv a = sv b ↔ a = b := by
  rw [V.str.injEq]; exact S_inj
theorem S_tl (x : Str) : S (TL.tl x) = x := TL.mk_tl x
theorem S_ex (x : Str) : ∃ a : Wd, x = S a := ⟨TL.tl x, (S_tl x).symm⟩
theorem S_app (a b : Wd) : S a ++ S b = S (a ++ b) := by
  apply TL.ext_tl
  rw [TL.tl_append]
  simp [S, TL.tl]
theorem dec_sv (a b : Wd) : decide (sv a = sv b) = decide (a = b) := by
  by_cases h : a = b
  · subst h; simp
  · rw [decide_eq_false h, decide_eq_false fun z => h (sv_inj.mp z)]
theorem starts_S (a b : Wd) : Txt.startswith (S a) (S b) = b.isPrefixOf a := by
  unfold Txt.startswith
  rw [StrLaws.subAt_eq, S_len, S_len, S_cps, S_cps, List.drop_zero, Nat.zero_add]
  rw [Bool.eq_iff_iff, Bool.and_eq_true, decide_eq_true_iff, beq_iff_eq, List.isPrefixOf_iff_prefix]
  constructor
  · intro h
    rw [← h.2]
    exact List.take_prefix _ _
  · intro h
    exact ⟨h.length_le, (List.prefix_iff_eq_take.mp h).symm⟩
theorem cutS_S (a : Wd) (lo hi : Option Int) : cutS (S a) lo hi = S ((a.drop (HT.sIx a.length 0 lo)).take (HT.sIx a.length a.length hi - HT.sIx a.length 0 lo)) := by
  unfold cutS
  rw [S_len, S_cps]
  rfl
theorem cut_from (a : Wd) (k : Nat) : cutS (S a) (some (k : Int)) none = S (a.drop k) := by
  rw [cutS_S, HT.sIx_none, HT.sIx_nat, S_inj]
  by_cases h : k ≤ a.length
  · rw [Nat.min_eq_left h, List.take_of_length_le]
    rw [List.length_drop]; exact Nat.le_refl _
  · rw [Nat.min_eq_right (by omega), List.drop_of_length_le (by omega), List.drop_of_length_le (by omega), List.take_nil]
theorem cut_to (a : Wd) (k : Nat) : cutS (S a) none (some (k : Int)) = S (a.take k) := by
  rw [cutS_S, HT.sIx_none, HT.sIx_nat, S_inj, List.drop_zero, Nat.sub_zero]
  by_cases h : k ≤ a.length
  · rw [Nat.min_eq_left h]
  · rw [Nat.min_eq_right (by omega), List.take_of_length_le (Nat.le_refl _), List.take_of_length_le (by omega)]
theorem cut_mid (a : Wd) (i k : Nat) : cutS (S a) (some (i : Int)) (some ((i : Int) + (k : Int))) = S ((a.drop i).take k) := by
  rw [cutS_S, show ((i : Int) + (k : Int)) = ((i + k : Nat) : Int) from rfl, HT.sIx_nat, HT.sIx_nat, S_inj]
  by_cases h : i + k ≤ a.length
  · rw [Nat.min_eq_left h, Nat.min_eq_left (by omega), Nat.add_sub_cancel_left]
  · by_cases h2 : i ≤ a.length
    · rw [Nat.min_eq_right (by omega), Nat.min_eq_left h2, List.take_of_length_le, List.take_of_length_le]
      · rw [List.length_drop]; omega
      · rw [List.length_drop]; exact Nat.le_refl _
    · rw [List.drop_of_length_le (l := a) (i := i) (by omega), Nat.min_eq_right (by omega), Nat.min_eq_right (by omega), List.drop_of_length_le (by omega), List.take_nil, List.take_nil]
theorem join_S (xs : List Wd) : Txt.join (S []) (xs.map S) = S xs.flatten := by
  rw [TL.join_eq]
  induction xs with
  | nil => rfl
  | cons x r ih =>
    cases r with
    | nil => 
      simp only [List.map_cons, List.map_nil, List.flatten_cons, List.flatten_nil, List.append_nil]
      rfl
    | cons y r =>
      have e : Str.join (S []) ((x :: y :: r).map S) = S x ++ S [] ++ Str.join (S []) ((y :: r).map S) := rfl
      rw [e, ih, S_app, S_app, List.append_nil]
      simp only [List.flatten_cons]

/-! ### what may be as long -/
theorem sz {n : Nat} (h : n ≤ 100000) : n ≤ sizeLine := Nat.le_trans h (by decide)
theorem szl {n : Nat} (h : n < 100000) : n < sizeLine := Nat.lt_of_lt_of_le h (by decide)
theorem szS {a : Wd} (h : a.length ≤ 100000) : (S a).length ≤ sizeLine := by rw [S_len]; exact sz h

/-! ### heaps that only grow -/
theorem new {H : Hp} {p : Addr} {o : HO} (h : H p = none) : Same H (upd H p o) := fun a u e => by
  rw [upd_ne (ne_of_none e h)]; exact e
/-- an object that H does not know may change -/
theorem mutd {H H' : Hp} {p : Addr} {o : HO} (e : Same H H') (h : H p = none) : Same H (upd H' p o) := fun a u ha => by
  rw [upd_ne (ne_of_none ha h)]; exact e a u ha
theorem sqT {K : PySem.W.Frag} {H H' : Hp} {a : Addr} {xs : List V} (e : Same H H') (h : SqT K H a xs) : SqT K H' a xs := by
  rcases h with h | h
  · rcases h with h | ⟨o, h⟩
    · exact .inl (.inl (e a _ h))
    · exact .inl (.inr ⟨o, e a _ h⟩)
  · exact .inr h
mutual
theorem dp_same {K : PySem.W.Frag} {H H' : Hp} (e : Same H H') : ∀ {d : PyData} {v : V}, Dp K H v d → Dp K H' v d
  | _, _, .non => .non
  | _, _, .bl b => .bl b
  | _, _, .int i => .int i
  | _, _, .str x => .str x
  | _, _, .lst h r => .lst (e.seq h) (dpAll_same e r)
  | _, _, .tup h r => .tup (sqT e h) (dpAll_same e r)
theorem dpAll_same {K : PySem.W.Frag} {H H' : Hp} (e : Same H H') : ∀ {ds : List PyData} {vs : List V}, DpAll K H vs ds → DpAll K H' vs ds
  | _, _, .nil => .nil
  | _, _, .cons h r => .cons (dp_same e h) (dpAll_same e r)
end
/-- lists of texts as data -/
theorem dpAll_strs {K : PySem.W.Frag} {H : Hp} : ∀ xs : List Wd, DpAll K H (xs.map sv) (xs.map fun a => PyData.str (S a))
  | [] => .nil
  | x :: r => .cons (.str _) (dpAll_strs r)

/-! ### the module's names -/
structure Bi (mg : Str → Option Value) : Prop where
  len : mg "len" = none
  isinstance : mg "isinstance" = none
  range : mg "range" = none
  sorted : mg "sorted" = none
  sum : mg "sum" = none
  max : mg "max" = none
  min : mg "min" = none
  reversed : mg "reversed" = none
  list : mg "list" = none
  dict : mg "dict" = none
  int : mg "int" = none
  str : mg "str" = none
  tuple : mg "tuple" = none
  bool : mg "bool" = none
  enumerate : mg "enumerate" = none
/-- a def of the text stands under its name -/
def Def (K : PySem.W.Frag) (mg : Str → Option Value) (x : Str) (st : Stmt) : Prop :=
  ∃ f fd, mg x = some (.ref f) ∧ FunD K x x (defArgs st) (defBody st) (defScope st) [] [] f fd
/-- a def that keeps a promise -/
structure Cal (P : Program) (w : World) (K : PySem.W.Frag) (mg : Str → Option Value) (base : Heap) (CX : CXT) (x : Str) (k : Nat) (ps : List Str) (sp : Sp) : Prop where
  ex : ∃ f fd, mg x = some (.ref f) ∧ PySem.W.keepIn K (.ref f) = true ∧ Binds K fd ps [] ∧ FnOk P w K mg base CX k f fd ps sp
section
variable {P : Program} {w : World} {K : PySem.W.Frag} {mg : Str → Option Value} {base : Heap} {CX : CXT} {x : Str} {st : Stmt} {N ps : List Str} {k : Nat} {sp : Sp}
theorem Def.cal (D : Def K mg x st) (S : FnScope N ps (defScope st))
    (hb : ∀ (kV doc pm : Value) (an : Option Addr) (cdv ct : Value) (us : List Value), us.length = ps.length → bindArgs (PySem.W.fnOf x x (defArgs st) (defBody st) (defScope st) .none kV doc pm an cdv ct) ⟨us, []⟩ = pure (ps.zip us))
    (len : ∀ vs H Q E, sp vs H Q E → vs.length = ps.length)
    (hbody : ∀ (f : Addr) (cdv : Value) (A : Around) (outer : List Env) (s : Shared) (H : Hp) (vs : List V) (Q : VK) (E : XK), Room k (A.deeper (envOfC x (defScope st) s.heap.objs.size f cdv)) → sp vs H Q E →
      ∃ t, PSs (cxOf CX P w K mg base N x (defScope st) f cdv A outer s H E) (defBody st) t ∧ t { nx := fun _ H' => Q .non H', rt := Q } (start N vs) H) : Cal P w K mg base CX x (k + 1) ps sp := by
  obtain ⟨f, fd, hm, F⟩ := D
  exact ⟨f, fd, hm, F.kp, F.bindsN hb, F.ok S len fun cdv A outer s H vs Q E hr h => hbody f cdv A outer s H vs Q E hr h⟩
end
section
variable {X : Cx} {CX : CXT} {j k : Nat} {ps : List Str} {sp : Sp} {E : XK} {x : Str} {p pos : Pos} {e : Expr} {es : List Expr} {t : TA}
theorem pe_calE (C : Cal X.prog X.w X.K X.mg X.base CX x k ps sp) (hr : Room j X.A) (hx : Passes CX X E) (ha : PA X (e :: es) t) (hk : k ≤ j := by decide) (hg : Gl X x := by rfl)
    (hdb : (x == ("__debug__" : Str)) = false := by decide) (he : starEach (e :: es) X.env = (false, eval e X.env) :: starEach es X.env := by rfl)
    (hpl : (backTo pos (starEach es X.env)).any (·.1) = false := by rfl) : PE X (.Call (.Name x p) (e :: es) [] pos) (tCall sp [] E t) := by
  obtain ⟨f, fd, hm, hkp, hb, F⟩ := C.ex
  exact pe_call F (hr.mono hk) hg hm hkp hb .nil hx ha hdb he hpl
theorem pe_cal (C : Cal X.prog X.w X.K X.mg X.base CX0 x k ps sp) (hr : Room j X.A) (ha : PA X (e :: es) t) (hk : k ≤ j := by decide) (hg : Gl X x := by rfl)
    (hdb : (x == ("__debug__" : Str)) = false := by decide) (he : starEach (e :: es) X.env = (false, eval e X.env) :: starEach es X.env := by rfl)
    (hpl : (backTo pos (starEach es X.env)).any (·.1) = false := by rfl) : PE X (.Call (.Name x p) (e :: es) [] pos) (tCall sp [] E0 t) :=
  pe_calE C hr pass0 ha hk hg hdb he hpl
end
end One


/-! ### rules over texts as lists of codes -/
namespace One
open PySem PySem.Spec PyProof.Rows L2
section
variable {X : Cx}
theorem OpR.imp {f : Value → Value → Sem Value} {r r' : R2} (h : OpR X f r) (i : ∀ x y H Q, r' x y H Q → r x y H Q) : OpR X f r' := fun pins s σ H x y v u Q I rx ry q => h pins s σ H x y v u Q I rx ry (i _ _ _ _ q)
theorem CallR.imp {f : Value} {r r' : List V → Hp → VK → Prop} (h : CallR X f r) (i : ∀ xs H Q, r' xs H Q → r xs H Q) : CallR X f r' := fun pins s σ H xs us Q I r q => h pins s σ H xs us Q I r (i _ _ _ q)
theorem MtR.imp {id : String} {r r' : V → List V → Hp → VK → Prop} (h : MtR X id r) (i : ∀ x xs H Q, r' x xs H Q → r x xs H Q) : MtR X id r' := fun pins s σ H x xs v us Q I rx rs q => h pins s σ H x xs v us Q I rx rs (i _ _ _ _ q)
theorem SlR.imp {r r' : V → Option Int → Option Int → Hp → VK → Prop} (h : SlR X r) (i : ∀ x lo hi H Q, r' x lo hi H Q → r x lo hi H Q) : SlR X r' := fun pins s σ H x v vl vu lo hi sl Q I rx hs pl pu q => h pins s σ H x v vl vu lo hi sl Q I rx hs pl pu (i _ _ _ _ _ q)
theorem IxR.imp {r r' : R2} (h : IxR X r) (i : ∀ x y H Q, r' x y H Q → r x y H Q) : IxR X r' := fun value slice pins s σ H x y v u Q I rx ry q e => h value slice pins s σ H x y v u Q I rx ry (i _ _ _ _ q) e
theorem pe_w {x : Str} {j : Nat} {pos : Pos} (a : Wd) (h : x = S a) : PE X (.Constant (.str x) j pos) (tC (sv a)) := h ▸ pe_str
/-- None or a text -/
def optv : Option Wd → V
  | none => .non
  | some a => sv a
theorem optv_inj {a b : Option Wd} : optv a = optv b ↔ a = b := by
  cases a <;> cases b <;> simp [optv, S_inj]
theorem scal_optv (a b : Option Wd) : scal (optv a) (optv b) = true := by cases a <;> cases b <;> rfl
theorem dec_optv (a b : Option Wd) : decide (optv a = optv b) = decide (a = b) := by
  by_cases h : a = b
  · subst h; simp
  · rw [decide_eq_false h, decide_eq_false fun z => h (optv_inj.mp z)]
theorem dec_int' (i j : Int) : decide (V.int i = V.int j) = decide (i = j) := by simp
def rAddW : R2 := fun x y H Q => ∃ a b : Wd, x = sv a ∧ y = sv b ∧ a.length + b.length ≤ 100000 ∧ Q (sv (a ++ b)) H
theorem op_addw : OpR X (binaryOp .Add) rAddW := OpR.imp op_add_str fun x y H Q ⟨a, b, hx, hy, hz, q⟩ => ⟨S a, S b, hx, hy, by rw [S_len, S_len]; exact sz hz, by rw [S_app]; exact q⟩
def rEqW : R2 := fun x y H Q => ∃ a b : Wd, x = sv a ∧ y = sv b ∧ Q (.bl (decide (a = b))) H
def rNeW : R2 := fun x y H Q => ∃ a b : Wd, x = sv a ∧ y = sv b ∧ Q (.bl (!decide (a = b))) H
theorem op_eqw : OpR X (compareOp .Eq) rEqW := OpR.imp op_eq fun x y H Q ⟨a, b, hx, hy, q⟩ => ⟨by rw [hx, hy]; rfl, by rw [hx, hy, dec_sv]; exact q⟩
theorem op_new : OpR X (compareOp .NotEq) rNeW := OpR.imp op_ne fun x y H Q ⟨a, b, hx, hy, q⟩ => ⟨by rw [hx, hy]; rfl, by rw [hx, hy, dec_sv]; exact q⟩
def rEqO : R2 := fun x y H Q => ∃ a b : Option Wd, x = optv a ∧ y = optv b ∧ Q (.bl (decide (a = b))) H
def rNeO : R2 := fun x y H Q => ∃ a b : Option Wd, x = optv a ∧ y = optv b ∧ Q (.bl (!decide (a = b))) H
theorem op_eqo : OpR X (compareOp .Eq) rEqO := OpR.imp op_eq fun x y H Q ⟨a, b, hx, hy, q⟩ => ⟨by rw [hx, hy]; exact scal_optv a b, by rw [hx, hy, dec_optv]; exact q⟩
theorem op_neo : OpR X (compareOp .NotEq) rNeO := OpR.imp op_ne fun x y H Q ⟨a, b, hx, hy, q⟩ => ⟨by rw [hx, hy]; exact scal_optv a b, by rw [hx, hy, dec_optv]; exact q⟩
def rEqN : R2 := fun x y H Q => ∃ i j : Int, x = .int i ∧ y = .int j ∧ Q (.bl (decide (i = j))) H
def rNeN : R2 := fun x y H Q => ∃ i j : Int, x = .int i ∧ y = .int j ∧ Q (.bl (!decide (i = j))) H
theorem op_eqn : OpR X (compareOp .Eq) rEqN := OpR.imp op_eq fun x y H Q ⟨a, b, hx, hy, q⟩ => ⟨by rw [hx, hy]; rfl, by rw [hx, hy, dec_int']; exact q⟩
theorem op_nen : OpR X (compareOp .NotEq) rNeN := OpR.imp op_ne fun x y H Q ⟨a, b, hx, hy, q⟩ => ⟨by rw [hx, hy]; rfl, by rw [hx, hy, dec_int']; exact q⟩
/-- len of a text, of a list -/
def rLenW : List V → Hp → VK → Prop := fun xs H Q => ∃ a : Wd, xs = [sv a] ∧ a.length ≤ 100000 ∧ Q (.int (a.length : Int)) H
theorem call_lenw : CallR X (.builtin "len") rLenW := CallR.imp call_len_str fun xs H Q ⟨a, e, hz, q⟩ => ⟨S a, e, szS hz, by rw [S_len]; exact q⟩
def rLenL (K : PySem.W.Frag) : List V → Hp → VK → Prop := fun xs H Q => ∃ p, xs = [.ref p] ∧ ∃ ys, SqL K H p ys ∧ Q (.int (ys.length : Int)) H
theorem call_lenl : CallR X (.builtin "len") (rLenL X.K) := CallR.imp call_len_seq fun xs H Q ⟨p, e, ys, h, q⟩ => ⟨p, ys, e, .inl h, q⟩
def rLenT (K : PySem.W.Frag) : List V → Hp → VK → Prop := fun xs H Q => ∃ p, xs = [.ref p] ∧ ∃ ys, SqT K H p ys ∧ Q (.int (ys.length : Int)) H
theorem call_lent : CallR X (.builtin "len") (rLenT X.K) := CallR.imp call_len_seq fun xs H Q ⟨p, e, ys, h, q⟩ => ⟨p, ys, e, .inr h, q⟩
/-- a text's slice -/
def cutW (a : Wd) (lo hi : Option Int) : Wd := (a.drop (HT.sIx a.length 0 lo)).take (HT.sIx a.length a.length hi - HT.sIx a.length 0 lo)
def rSlW : V → Option Int → Option Int → Hp → VK → Prop := fun x lo hi H Q => ∃ a : Wd, x = sv a ∧ a.length ≤ 100000 ∧ Q (sv (cutW a lo hi)) H
theorem sl_w : SlR X rSlW := SlR.imp sl_str fun x lo hi H Q ⟨a, e, hz, q⟩ => ⟨S a, e, szS hz, by rw [cutS_S]; exact q⟩
theorem cutW_from (a : Wd) (k : Nat) : cutW a (some (k : Int)) none = a.drop k := S_inj.mp ((cutS_S a _ _).symm.trans (cut_from a k))
theorem cutW_to (a : Wd) (k : Nat) : cutW a none (some (k : Int)) = a.take k := S_inj.mp ((cutS_S a _ _).symm.trans (cut_to a k))
theorem cutW_mid (a : Wd) (i k : Nat) : cutW a (some (i : Int)) (some ((i : Int) + (k : Int))) = (a.drop i).take k := S_inj.mp ((cutS_S a _ _).symm.trans (cut_mid a i k))
theorem cutW_len (a : Wd) (lo hi : Option Int) : (cutW a lo hi).length ≤ a.length := by
  unfold cutW
  rw [List.length_take, List.length_drop]; omega
/-- a text's sign, a list's item, a tuple's item -/
def rIxW : R2 := fun x y H Q => ∃ (a : Wd) (i : Int), x = sv a ∧ y = .int i ∧ a.length ≤ 100000 ∧ 0 ≤ i ∧ ∃ c, a[i.toNat]? = some c ∧ Q (sv [c]) H
theorem atI_toNat {α : Type} {xs : List α} {i : Int} {v : α} (h0 : 0 ≤ i) (h : xs[i.toNat]? = some v) : atI xs i = some v := by
  have := atI_nat (j := i.toNat) h
  rwa [Int.toNat_of_nonneg h0] at this
theorem ix_w : IxR X rIxW := IxR.imp ix_str fun x y H Q ⟨a, i, hx, hy, hz, h0, c, hc, q⟩ => ⟨S a, i, c, hx, hy, szS hz, by rw [S_cps]; exact atI_toNat h0 hc, q⟩
def rIxLn (K : PySem.W.Frag) : R2 := fun x y H Q => ∃ (p : Addr) (i : Int), x = .ref p ∧ y = .int i ∧ ∃ xs, SqL K H p xs ∧ 0 ≤ i ∧ ∃ v, xs[i.toNat]? = some v ∧ Q v H
theorem ix_l : IxR X (rIxLn X.K) := IxR.imp ix_list fun x y H Q ⟨p, i, hx, hy, xs, h, h0, v, hv, q⟩ => ⟨p, xs, i, v, hx, hy, h, atI_toNat h0 hv, q⟩
def rIxTn (K : PySem.W.Frag) : R2 := fun x y H Q => ∃ (p : Addr) (i : Int), x = .ref p ∧ y = .int i ∧ ∃ xs, SqT K H p xs ∧ 0 ≤ i ∧ ∃ v, xs[i.toNat]? = some v ∧ Q v H
theorem ix_t : IxR X (rIxTn X.K) := IxR.imp ix_tup fun x y H Q ⟨p, i, hx, hy, xs, h, h0, v, hv, q⟩ => ⟨p, xs, i, v, hx, hy, h, atI_toNat h0 hv, q⟩
/-- text.startswith(other), sep.join(list of texts) -/
def rStW : V → List V → Hp → VK → Prop := fun x xs H Q => ∃ a b : Wd, x = sv a ∧ xs = [sv b] ∧ Q (.bl (b.isPrefixOf a)) H
theorem mt_stw : MtR X "str.startswith" rStW := MtR.imp mt_startswith fun x xs H Q ⟨a, b, hx, hy, q⟩ => ⟨S a, S b, hx, hy, by rw [starts_S]; exact q⟩
theorem map_sv_len (ys : List Wd) : ((ys.map S).map (·.length)).sum = ys.flatten.length := by
  induction ys with
  | nil => rfl
  | cons x r ih => simp only [List.map_cons, List.sum_cons, List.flatten_cons, List.length_append, ih, S_len]
theorem map_sv (ys : List Wd) : (ys.map S).map V.str = ys.map sv := by rw [List.map_map]; rfl
def rJoW (K : PySem.W.Frag) : V → List V → Hp → VK → Prop := fun x xs H Q => ∃ p, x = sv [] ∧ xs = [.ref p] ∧ ∃ ys : List Wd, SqL K H p (ys.map sv) ∧ ys.flatten.length ≤ 100000 ∧ Q (sv ys.flatten) H
theorem mt_jow : MtR X "str.join" (rJoW X.K) := MtR.imp mt_join fun x xs H Q ⟨p, hx, hy, ys, h, hz, q⟩ => ⟨S [], p, ys.map S, hx, hy, .inl (by rw [map_sv]; exact h), by rw [map_sv_len, S_len]; show ys.flatten.length + _ * 0 ≤ _; omega, by rw [join_S]; exact q⟩
/-- a text in a list of texts -/
def rInW (K : PySem.W.Frag) (neg : Bool) : R2 := fun x y H Q => ∃ (a : Wd) (p : Addr), x = sv a ∧ y = .ref p ∧ ∃ xs : List Wd, SqL K H p (xs.map sv) ∧ Q (.bl (if neg then !decide (a ∈ xs) else decide (a ∈ xs))) H
theorem inV_sv (a : Wd) (xs : List Wd) : inV (sv a) (xs.map sv) = decide (a ∈ xs) := by
  unfold inV
  rw [List.any_map, Bool.eq_iff_iff, List.any_eq_true, decide_eq_true_iff]
  constructor
  · rintro ⟨x, hx, e⟩
    have e2 : (S x == S a) = true := e
    have e3 : S x = S a := by simpa using e2
    rw [← S_inj.mp e3]; exact hx
  · intro h
    exact ⟨a, h, by show (S a == S a) = true; simp⟩
theorem flat_sv (xs : List Wd) : (xs.map sv).all flatV = true := by
  rw [List.all_eq_true]
  intro v hv
  obtain ⟨a, _, rfl⟩ := List.mem_map.mp hv
  rfl
theorem op_inw : OpR X (compareOp .In) (rInW X.K false) := OpR.imp op_in_seq fun x y H Q ⟨a, p, hx, hy, xs, h, q⟩ => ⟨p, xs.map sv, hy, .inl h, by rw [hx]; rfl, flat_sv xs, by rw [hx, inV_sv]; exact q⟩
theorem op_niw : OpR X (compareOp .NotIn) (rInW X.K true) := OpR.imp op_notIn_seq fun x y H Q ⟨a, p, hx, hy, xs, h, q⟩ => ⟨p, xs.map sv, hy, .inl h, by rw [hx]; rfl, flat_sv xs, by rw [hx, inV_sv]; exact q⟩
/-- one sign in a text -/
def rInG (neg : Bool) : R2 := fun x y H Q => ∃ (c : Nat) (a : Wd), x = sv [c] ∧ y = sv a ∧ Q (.bl (if neg then !decide (c ∈ a) else decide (c ∈ a))) H
theorem op_ing : OpR X (compareOp .In) (rInG false) := OpR.imp op_in_sign fun x y H Q ⟨c, a, hx, hy, q⟩ => ⟨c, S a, hx, hy, by rw [S_cps]; exact q⟩
theorem op_nig : OpR X (compareOp .NotIn) (rInG true) := OpR.imp op_notIn_sign fun x y H Q ⟨c, a, hx, hy, q⟩ => ⟨c, S a, hx, hy, by rw [S_cps]; exact q⟩
end

/-! ### answers -/
/-- a value, the heap has grown at most; a new list; a new tuple -/
def Ret (H : Hp) (Q : VK) (v : V) : Prop := ∀ H', Same H H' → Q v H'
def RetL (H : Hp) (Q : VK) (xs : List V) : Prop := ∀ p H', Same H H' → H p = none → H' p = some (.lst xs) → Q (.ref p) H'
def RetT (H : Hp) (Q : VK) (xs : List V) : Prop := ∀ p H', Same H H' → H p = none → H' p = some (.tup xs) → Q (.ref p) H'
theorem Ret.mono {H H1 : Hp} {Q : VK} {v : V} (e : Same H H1) (r : Ret H Q v) : Ret H1 Q v := fun H' e' => r H' (e.trans e')
theorem RetL.mono {H H1 : Hp} {Q : VK} {xs : List V} (e : Same H H1) (r : RetL H Q xs) : RetL H1 Q xs := fun p H' e' hp h => r p H' (e.trans e') (e.free hp) h
theorem RetT.mono {H H1 : Hp} {Q : VK} {xs : List V} (e : Same H H1) (r : RetT H Q xs) : RetT H1 Q xs := fun p H' e' hp h => r p H' (e.trans e') (e.free hp) h
theorem RetT.at {H H1 : Hp} {Q : VK} {xs : List V} (r : RetT H Q xs) (e : Same H H1) {p : Addr} (hp : H1 p = none) : Q (.ref p) (upd H1 p (.tup xs)) := r p _ (e.trans (new hp)) (e.free hp) upd_same
theorem RetL.at {H H1 : Hp} {Q : VK} {xs : List V} (r : RetL H Q xs) (e : Same H H1) {p : Addr} (hp : H1 p = none) : Q (.ref p) (upd H1 p (.lst xs)) := r p _ (e.trans (new hp)) (e.free hp) upd_same
/-! ### ways -/
theorem itd {p A B : Prop} [Decidable p] (h1 : p → A) (h2 : ¬ p → B) : if decide p = true then A else B := by
  by_cases h : p
  · rw [if_pos (decide_eq_true h)]; exact h1 h
  · rw [if_neg (by simpa using h)]; exact h2 h
theorem itn {p A B : Prop} [Decidable p] (h1 : ¬ p → A) (h2 : p → B) : if (!decide p) = true then A else B := by
  by_cases h : p
  · rw [if_neg (by simpa using h)]; exact h2 h
  · rw [if_pos (by simpa using h)]; exact h1 h
theorem itb {b : Bool} {A B : Prop} (h1 : b = true → A) (h2 : b = false → B) : if b = true then A else B := by
  cases b
  · exact h2 rfl
  · exact h1 rfl
theorem itnb {b : Bool} {A B : Prop} (h1 : b = false → A) (h2 : b = true → B) : if (!b) = true then A else B := by
  cases b
  · exact h1 rfl
  · exact h2 rfl

/-! ### loops -/
section
variable {K : PySem.W.Frag} {a : Addr} {g : TG} {tb : TS} {D : Ends} {σ : L2.St} {H : Hp}
/-- over a list of texts that stays: Pv by what was taken -/
theorem for_ws {xs : List Wd} {j : Nat} (hS : SqL K H a (xs.map sv)) (Pv : List Wd → L2.St → Hp → Prop) (h0 : Pv [] σ H) (hm : ∀ pre σ' H', Pv pre σ' H' → Same H H')
    (hs : ∀ pre x post σ' H', xs = pre ++ x :: post → Pv pre σ' H' → tb { D with nx := Pv (pre ++ [x]), ct := Pv (pre ++ [x]), bk := D.nx } (σ'.set j (some (sv x))) H') (hd : ∀ σ' H', Pv xs σ' H' → D.nx σ' H') :
    ∃ W : Nat → Nat → L2.St → Hp → Prop, (∃ m, W 0 m σ H) ∧ ∀ i m σ H, W i m σ H →
      ((Itl K a).stop i H ∧ D.nx σ H) ∨ ((Itl K a).go i H ∧ ∃ N : L2.St → Hp → Prop, (∀ σ' H', N σ' H' → ∃ m', m' < m ∧ W (i + 1) m' σ' H') ∧ ∀ x H', (Itl K a).yld i H x H' → gName j x σ H' fun σ2 H2 => tb { D with nx := N, ct := N, bk := D.nx } σ2 H2) := by
  refine for_list (xs := xs.map sv) (fun i σ' H' => Pv (xs.take i) σ' H') (by rw [List.take_zero]; exact h0) (fun i σ' H' _ p => (hm _ _ _ p).seq hS) (fun i x σ' H' hx p => ?_) (fun σ' H' p => hd σ' H' (by rw [List.length_map, List.take_length] at p; exact p))
  rw [List.getElem?_map] at hx
  cases e : xs[i]? with
  | none => rw [e] at hx; cases hx
  | some y =>
    rw [e] at hx
    obtain rfl : sv y = x := Option.some.inj hx
    have hi : i < xs.length := (List.getElem?_eq_some_iff.mp e).1
    have ey : xs[i] = y := (List.getElem?_eq_some_iff.mp e).2
    have e1 : xs = xs.take i ++ y :: xs.drop (i + 1) := by
      rw [← ey, List.getElem_cons_drop, List.take_append_drop]
    have e2 : xs.take (i + 1) = xs.take i ++ [y] := by rw [List.take_add_one, e]; rfl
    show tb { D with nx := fun σ' H' => Pv (xs.take (i + 1)) σ' H', ct := fun σ' H' => Pv (xs.take (i + 1)) σ' H', bk := D.nx } (σ'.set j (some (sv y))) H'
    rw [e2]
    exact hs _ y _ σ' H' e1 p
end
/-! ### comprehensions whose element makes no object that is kept -/
/-- te gives v from any heap that has grown from H -/
def EvV (te : TE) (σ : L2.St) (H : Hp) (v : V) : Prop := ∀ H1, Same H H1 → ∀ Q : VK, (∀ H2, Same H1 H2 → Q v H2) → te σ H1 Q
def EvB (tt : TT) (σ : L2.St) (H : Hp) (b : Bool) : Prop := ∀ H1, Same H H1 → ∀ Q : Bool → Hp → Prop, (∀ H2, Same H1 H2 → Q b H2) → tt σ H1 Q
section
variable {K : PySem.W.Frag} {a : Addr} {tt : TT} {te : TE} {σ : L2.St} {H1 : Hp} {D : Addr} {Qd : Hp → Prop}
theorem wipe1 (σ : L2.St) (j : Nat) (v : Option V) : wipe ((wipe σ [j]).set j v) [j] = wipe σ [j] := by
  show ((σ.set j none).set j v).set j none = σ.set j none
  rw [List.set_set, List.set_set]
/-- over a list of values that stays -/
theorem lc_vals {xs : List V} {j : Nat} (c : V → Bool) (y : V → V) (hD : H1 D = none) (hS : SqL K H1 a xs) (hz : xs.length ≤ 100000)
    (ht : ∀ x ∈ xs, EvB tt ((wipe σ [j]).set j (some x)) H1 (c x)) (he : ∀ x ∈ xs, c x = true → EvV te ((wipe σ [j]).set j (some x)) H1 (y x))
    (hd : ∀ H', Same H1 H' → H' D = some (.lst ((xs.filter c).map y)) → Qd H') :
    ∃ W : Nat → Nat → Hp → Prop, (∃ m, W 0 m (upd H1 D (.lst []))) ∧ ∀ i m H, W i m H →
      ((Itl K a).stop i H ∧ Qd H) ∨ ((Itl K a).go i H ∧ ∃ Nx : Hp → Prop, (∀ H', Nx H' → ∃ m', m' < m ∧ W (i + 1) m' H') ∧ ∀ x H', (Itl K a).yld i H x H' → gName j x (wipe σ [j]) H' fun σ2 H2 => wipe σ2 [j] = wipe σ [j] ∧ tt σ2 H2 fun b H3 =>
        if b = true then te σ2 H3 fun y H4 => ∃ acc, H4 D = some (.lst acc) ∧ acc.length < sizeLine ∧ Nx (upd H4 D (.lst (acc ++ [y]))) else Nx H3) := by
  refine lc_list (K := K) (a := a) (xs := xs) (fun i H => Same H1 H ∧ H D = some (.lst (((xs.take i).filter c).map y))) ⟨new hD, upd_same⟩ (fun i H _ p => p.1.seq hS) (fun i x H hx p => ?_) (fun H p => hd H p.1 (by rw [List.take_length] at p; exact p.2))
  have hm : x ∈ xs := List.mem_of_getElem? hx
  have e2 : xs.take (i + 1) = xs.take i ++ [x] := by rw [List.take_add_one, hx]; rfl
  refine ⟨wipe1 σ j _, ht x hm H p.1 _ fun H2 s2 => ?_⟩
  refine itb (fun hc => ?_) fun hc => ?_
  · refine he x hm hc H2 (p.1.trans s2) _ fun H3 s3 => ⟨_, s3 _ _ (s2 _ _ p.2), ?_, mutd ((p.1.trans s2).trans s3) hD, ?_⟩
    · refine szl ?_
      rw [List.length_map]
      have h1 := List.length_filter_le c (xs.take i)
      have h2 : i < xs.length := (List.getElem?_eq_some_iff.mp hx).1
      rw [List.length_take] at h1
      omega
    · rw [upd_same, e2, List.filter_append, List.map_append, List.filter_cons, if_pos hc]; rfl
  · refine ⟨p.1.trans s2, ?_⟩
    rw [s2 _ _ p.2, e2, List.filter_append, List.filter_cons, if_neg (by rw [hc]; decide)]
    simp
/-- over a range, no test -/
theorem lc_rng {lo : Int} {n j : Nat} (y : Nat → V) (hD : H1 D = none) (hz : n ≤ 100000)
    (he : ∀ i, i < n → EvV te ((wipe σ [j]).set j (some (.int (lo + (i : Nat))))) H1 (y i))
    (hd : ∀ H', Same H1 H' → H' D = some (.lst ((List.range n).map y)) → Qd H') :
    ∃ W : Nat → Nat → Hp → Prop, (∃ m, W 0 m (upd H1 D (.lst []))) ∧ ∀ i m H, W i m H →
      ((Itr lo n).stop i H ∧ Qd H) ∨ ((Itr lo n).go i H ∧ ∃ Nx : Hp → Prop, (∀ H', Nx H' → ∃ m', m' < m ∧ W (i + 1) m' H') ∧ ∀ x H', (Itr lo n).yld i H x H' → gName j x (wipe σ [j]) H' fun σ2 H2 => wipe σ2 [j] = wipe σ [j] ∧ tYes σ2 H2 fun b H3 =>
        if b = true then te σ2 H3 fun y H4 => ∃ acc, H4 D = some (.lst acc) ∧ acc.length < sizeLine ∧ Nx (upd H4 D (.lst (acc ++ [y]))) else Nx H3) := by
  refine lc_range (lo := lo) (n := n) (fun i H => Same H1 H ∧ H D = some (.lst ((List.range i).map y))) ⟨new hD, upd_same⟩ (fun i H hi p => ?_) (fun H p => hd H p.1 p.2)
  refine ⟨wipe1 σ j _, ?_⟩
  refine he i hi H p.1 _ fun H3 s3 => ⟨_, s3 _ _ p.2, ?_, mutd (p.1.trans s3) hD, ?_⟩
  · refine szl ?_
    rw [List.length_map, List.length_range]; omega
  · rw [upd_same, List.range_succ, List.map_append]; rfl
end
end One


/-! ### isinstance of what a value is -/
namespace One
open PySem PySem.Spec PyProof.Rows L2
inductive Ty where | non | bl | int | str | lst | tup | dict
def Ty.nm : Ty → String
  | .non => "NoneType" | .bl => "bool" | .int => "int" | .str => "str" | .lst => "list" | .tup => "tuple" | .dict => "dict"
def Ty.is : Ty → Ty → Bool
  | .bl, .int => true
  | .non, .non => true | .bl, .bl => true | .int, .int => true | .str, .str => true | .lst, .lst => true | .tup, .tup => true | .dict, .dict => true
  | _, _ => false
theorem kit_all : ∀ t n : Ty, kitB t.nm n.nm = some (t.is n)
  | .non, .non => by decide +kernel | .non, .bl => by decide +kernel | .non, .int => by decide +kernel | .non, .str => by decide +kernel | .non, .lst => by decide +kernel | .non, .tup => by decide +kernel | .non, .dict => by decide +kernel
  | .bl, .non => by decide +kernel | .bl, .bl => by decide +kernel | .bl, .int => by decide +kernel | .bl, .str => by decide +kernel | .bl, .lst => by decide +kernel | .bl, .tup => by decide +kernel | .bl, .dict => by decide +kernel
  | .int, .non => by decide +kernel | .int, .bl => by decide +kernel | .int, .int => by decide +kernel | .int, .str => by decide +kernel | .int, .lst => by decide +kernel | .int, .tup => by decide +kernel | .int, .dict => by decide +kernel
  | .str, .non => by decide +kernel | .str, .bl => by decide +kernel | .str, .int => by decide +kernel | .str, .str => by decide +kernel | .str, .lst => by decide +kernel | .str, .tup => by decide +kernel | .str, .dict => by decide +kernel
  | .lst, .non => by decide +kernel | .lst, .bl => by decide +kernel | .lst, .int => by decide +kernel | .lst, .str => by decide +kernel | .lst, .lst => by decide +kernel | .lst, .tup => by decide +kernel | .lst, .dict => by decide +kernel
  | .tup, .non => by decide +kernel | .tup, .bl => by decide +kernel | .tup, .int => by decide +kernel | .tup, .str => by decide +kernel | .tup, .lst => by decide +kernel | .tup, .tup => by decide +kernel | .tup, .dict => by decide +kernel
  | .dict, .non => by decide +kernel | .dict, .bl => by decide +kernel | .dict, .int => by decide +kernel | .dict, .str => by decide +kernel | .dict, .lst => by decide +kernel | .dict, .tup => by decide +kernel | .dict, .dict => by decide +kernel
inductive TyW (H : Hp) : V → Ty → Prop where
  | non : TyW H .non .non
  | bl (b : Bool) : TyW H (.bl b) .bl
  | int (i : Int) : TyW H (.int i) .int
  | str (x : Str) : TyW H (.str x) .str
  | lst {p : Addr} {xs : List V} (h : H p = some (.lst xs)) : TyW H (.ref p) .lst
  | tup {p : Addr} {xs : List V} (h : H p = some (.tup xs)) : TyW H (.ref p) .tup
  | dict {p : Addr} {kvs : List (Key × V)} (h : H p = some (.dK kvs)) : TyW H (.ref p) .dict
theorem TyW.of {K : PySem.W.Frag} {H : Hp} {x : V} {t : Ty} (h : TyW H x t) : TyX K H x (.type t.nm) := by
  cases h with
  | non => exact .base .non
  | bl b => exact .base (.bl b)
  | int i => exact .base (.int i)
  | str x => exact .base (.str x)
  | lst h => exact .base (.lst h)
  | tup h => exact .base (.tup h)
  | dict h => exact .base (.dK h)
def rIs (n : Ty) : List V → Hp → VK → Prop := fun xs H Q => ∃ x, xs = [x, .ty n.nm] ∧ ∃ t, TyW H x t ∧ Q (.bl (t.is n)) H
theorem call_is {X : Cx} (n : Ty) : CallR X (.builtin "isinstance") (rIs n) := CallR.imp call_isi fun xs H Q ⟨x, e, t, h, q⟩ => ⟨x, .ty n.nm, .type t.nm, .type n.nm, t.is n, e, .ty _, h.of, kit_ty (kit_all t n), q⟩
theorem pe_ty {X : Cx} {x : Str} {pos : Pos} (n : Ty) (hg : Gl X x) (hm : X.mg x = none) (hv : bootBuiltins x = some (.type n.nm)) (hn : x ≠ "__name__" := by decide) (hd : (x == ("__debug__" : Str)) = false := by decide) : PE X (.Name x pos) (tC (.ty n.nm)) := pe_bltn hg hm hv rfl hn hd
theorem pick {α : Type} {xs : List α} {i : Int} (h0 : 0 ≤ i) (h1 : i < xs.length) : ∃ v, v ∈ xs ∧ xs[i.toNat]? = some v := by
  have h : i.toNat < xs.length := by omega
  exact ⟨xs[i.toNat], List.getElem_mem h, List.getElem?_eq_getElem h⟩
theorem flat1 {α β : Type} (f : α → β) (xs : List α) : (xs.map fun i => [f i]).flatten = xs.map f := by
  induction xs with
  | nil => rfl
  | cons x r ih => simp only [List.map_cons, List.flatten_cons, ih]; rfl
theorem cutW_toI (a : Wd) {x : Int} (h : 0 ≤ x) : cutW a none (some x) = a.take x.toNat := by
  have := cutW_to a x.toNat
  rwa [Int.toNat_of_nonneg h] at this
theorem cutW_fromI (a : Wd) {x : Int} (h : 0 ≤ x) : cutW a (some x) none = a.drop x.toNat := by
  have := cutW_from a x.toNat
  rwa [Int.toNat_of_nonneg h] at this
theorem cut_two (a : Wd) {x : Int} (h : 0 ≤ x) : (cutW a none (some x)).length + (cutW a (some (x + 1)) none).length ≤ a.length := by
  rw [cutW_toI a h, cutW_fromI a (by omega), List.length_take, List.length_drop]
  omega
def ABC : Wd := [97, 98, 99, 100, 101, 102, 103, 104, 105, 106, 107, 108, 109, 110, 111, 112, 113, 114, 115, 116, 117, 118, 119, 120, 121, 122]
theorem pe_globw {X : Cx} {x : Str} {z : Str} {pos : Pos} (a : Wd) (h : z = S a) (hm : ∃ t, X.mg x = some (.str z t)) (hg : Gl X x) (hd : (x == ("__debug__" : Str)) = false := by decide) : PE X (.Name x pos) (tC (sv a)) := by
  obtain ⟨t, hm⟩ := hm
  exact pe_glob hg hm ⟨t, by rw [h]⟩ hd
theorem pe_globi {X : Cx} {x : Str} {i : Int} {pos : Pos} (hm : ∃ t, X.mg x = some (.int i t)) (hg : Gl X x) (hd : (x == ("__debug__" : Str)) = false := by decide) : PE X (.Name x pos) (tC (.int i)) := by
  obtain ⟨t, hm⟩ := hm
  exact pe_glob hg hm ⟨t, rfl⟩ hd
end One
namespace One
open PySem PySem.Spec PyProof.Rows L2
section
variable {K : PySem.W.Frag} {a : Addr} {g : TG} {tb : TS} {D : Ends} {σ : L2.St} {H : Hp}
/-- over a list that stays, nothing that stood is changed: Pv by the turn and the slots -/
theorem for_g {xs : List V} (hS : SqL K H a xs) (Pv : Nat → L2.St → Prop) (h0 : Pv 0 σ)
    (hs : ∀ i x σ' H', xs[i]? = some x → Pv i σ' → Same H H' → g x σ' H' fun σ2 H2 => tb { D with nx := fun σ'' H'' => Pv (i + 1) σ'' ∧ Same H H'', ct := fun σ'' H'' => Pv (i + 1) σ'' ∧ Same H H'', bk := D.nx } σ2 H2)
    (hd : ∀ σ' H', Pv xs.length σ' → Same H H' → D.nx σ' H') :
    ∃ W : Nat → Nat → L2.St → Hp → Prop, (∃ m, W 0 m σ H) ∧ ∀ i m σ H, W i m σ H →
      ((Itl K a).stop i H ∧ D.nx σ H) ∨ ((Itl K a).go i H ∧ ∃ N : L2.St → Hp → Prop, (∀ σ' H', N σ' H' → ∃ m', m' < m ∧ W (i + 1) m' σ' H') ∧ ∀ x H', (Itl K a).yld i H x H' → g x σ H' fun σ2 H2 => tb { D with nx := N, ct := N, bk := D.nx } σ2 H2) :=
  for_list (xs := xs) (fun i σ' H' => Pv i σ' ∧ Same H H') ⟨h0, Same.refl _⟩ (fun _ _ _ _ p => p.2.seq hS) (fun i x σ' H' hx p => hs i x σ' H' hx p.1 p.2) (fun σ' H' p => hd σ' H' p.1 p.2)
end
end One
namespace One
open PySem PySem.Spec PyProof.Rows L2
theorem new_at {H : Hp} {p b : Addr} {o u : HO} (h : H p = none) (e : H b = some u) : upd H p o b = some u := new h b u e
theorem same_at {H H' : Hp} {b : Addr} {u : HO} (s : Same H H') (e : H b = some u) : H' b = some u := s b u e
end One
namespace One
open PySem PySem.Spec PyProof.Rows L2
def rCatL : R2 := fun x y H Q => ∃ (l b : Addr), x = .ref l ∧ y = .ref b ∧ ∃ xs, H l = some (.lst xs) ∧ ∃ zs, H b = some (.lst zs) ∧ xs.length + zs.length ≤ 100000 ∧ ∀ p, H p = none → Q (.ref p) (upd H p (.lst (xs ++ zs)))
theorem op_catl {X : Cx} : OpR X (binaryOp .Add) rCatL := OpR.imp op_cat fun x y H Q ⟨l, b, hx, hy, xs, h1, zs, h2, hz, q⟩ => ⟨l, b, xs, zs, hx, hy, h1, h2, sz hz, q⟩
end One
namespace One
open PySem PySem.Spec PyProof.Rows L2
/-! ### == of data -/
def okD (d : PyData) : Bool := d.plain && decide (d.depth ≤ 8)
def rEqP (K : PySem.W.Frag) : R2 := fun x y H Q => ∃ d, Dp K H x d ∧ okD d = true ∧ ∃ e, Dp K H y e ∧ okD e = true ∧ Q (.bl (PyData.eqv d e)) H
def rNeP (K : PySem.W.Frag) : R2 := fun x y H Q => ∃ d, Dp K H x d ∧ okD d = true ∧ ∃ e, Dp K H y e ∧ okD e = true ∧ Q (.bl (!PyData.eqv d e)) H
theorem eqv_self {d : PyData} (h : okD d = true) : PyData.eqv d d = true := SeqAt.eqv_refl_plain d (Bool.and_eq_true_iff.mp h).1
example (x : Str) (b : Bool) : okD (.tuple [.str x, .bool b]) = true := rfl
example (x : Str) (b : Bool) : okD (.tuple [.str x, .bool b, .list []]) = true := by rfl
example (x y : Str) (b : Bool) : PyData.eqv (.tuple [.str x, .bool b]) (.tuple [.str y, .bool b]) = ((x == y) && ((b == b) && true)) := by rfl
theorem op_eqp {X : Cx} (hu : X.A.units + 64 < cLine) : OpR X (compareOp .Eq) (rEqP X.K) := by
  intro pins s σ H x y v u Q I rx ry h
  obtain ⟨d, hd, sd, e, he, se, q⟩ := h
  obtain ⟨as, r1⟩ := Dp.reads I d x v hd rx
  obtain ⟨bs, r2⟩ := Dp.reads I e y u he ry
  have h1 := Bool.and_eq_true_iff.mp sd
  have h2 := Bool.and_eq_true_iff.mp se
  have d1 := of_decide_eq_true h1.2
  exact SeqAt.eq_plain r1 r2 h1.1 h2.1 (by have := Nat.min_le_left d.depth e.depth; omega) ⟨.bl _, H, I, rfl, q⟩
theorem op_nep {X : Cx} (hu : X.A.units + 64 < cLine) : OpR X (compareOp .NotEq) (rNeP X.K) := by
  intro pins s σ H x y v u Q I rx ry h
  obtain ⟨d, hd, sd, e, he, se, q⟩ := h
  obtain ⟨as, r1⟩ := Dp.reads I d x v hd rx
  obtain ⟨bs, r2⟩ := Dp.reads I e y u he ry
  have h1 := Bool.and_eq_true_iff.mp sd
  have h2 := Bool.and_eq_true_iff.mp se
  have d1 := of_decide_eq_true h1.2
  exact SeqAt.ne_plain r1 r2 h1.1 h2.1 (by have := Nat.min_le_left d.depth e.depth; omega) ⟨.bl _, H, I, rfl, q⟩
abbrev sd (a : Wd) : PyData := .str (S a)
theorem eqvAll_strs : ∀ xs ys : List Wd, PyData.eqvAll (xs.map sd) (ys.map sd) = decide (xs = ys)
  | [], [] => rfl
  | [], _ :: _ => by simp [PyData.eqvAll]
  | _ :: _, [] => by simp [PyData.eqvAll]
  | x :: xs, y :: ys => by
    have e : (S x == S y) = decide (x = y) := by
      by_cases h : x = y
      · subst h; simp
      · rw [decide_eq_false h]; simpa using fun z => h (S_inj.mp z)
    simp only [List.map_cons, PyData.eqvAll, PyData.eqv, e, eqvAll_strs xs ys, List.cons.injEq, Bool.decide_and]
theorem eqv_strs (xs ys : List Wd) : PyData.eqv (.list (xs.map sd)) (.list (ys.map sd)) = decide (xs = ys) := by
  rw [← eqvAll_strs xs ys]; simp only [PyData.eqv]
theorem plain_strs : ∀ xs : List Wd, PyData.plainAll (xs.map sd) = true
  | [] => rfl
  | x :: r => by simp only [List.map_cons, PyData.plainAll, PyData.plain, plain_strs r, Bool.and_self]
theorem depth_strs : ∀ xs : List Wd, PyData.depthAll (xs.map sd) = 0
  | [] => rfl
  | x :: r => by simp only [List.map_cons, PyData.depthAll, PyData.depth, depth_strs r, Nat.max_self]
theorem ok_strs (xs : List Wd) : okD (.list (xs.map sd)) = true := by
  unfold okD
  simp only [PyData.plain, PyData.depth, plain_strs, depth_strs]
  decide
end One


set_option Elab.async false
set_option linter.all false
set_option maxRecDepth 100000
set_option maxHeartbeats 4000000
namespace One
open PySem PySem.Spec PyProof.Rows L2
local macro_rules | `(tactic| fail "as") => `(tactic| with_reducible assumption)
local macro_rules | `(tactic| fail "same") => `(tactic| first
  | with_reducible exact Same.refl _
  | fail "as"
  | with_reducible exact Same.trans (by fail "same") (new (by fail "as"))
  | with_reducible exact mutd (by fail "same") (by fail "as")
  | ((with_reducible refine Same.trans ?_ (by fail "as")); fail "same"))
local macro_rules | `(tactic| fail "look") => `(tactic| first
  | with_reducible exact upd_same
  | fail "as"
  | ((with_reducible refine new_at (by fail "as") ?_); fail "look")
  | ((with_reducible refine same_at (by fail "as") ?_); fail "look"))
local macro_rules | `(tactic| fail "seq") => `(tactic| first
  | fail "as"
  | with_reducible exact SqL.of (by fail "look")
  | with_reducible exact SqT.of (by fail "look")
  | ((with_reducible refine Same.seq ?_ (by fail "as")); fail "same")
  | ((with_reducible refine sqT ?_ (by fail "as")); fail "same"))
local macro_rules | `(tactic| fail "sq") => `(tactic| first
  | ((with_reducible show SqL _ _ _ _); fail "seq")
  | ((with_reducible show SqT _ _ _ _); fail "seq")
  | ((with_reducible show _ = some _); fail "look"))
local macro_rules | `(tactic| fail "le") => `(tactic| first
  | fail "as"
  | with_reducible exact sz (by simp)
  | ((try simp only [List.length_append, List.length_cons, List.length_nil]); omega)
  | decide)
local macro_rules | `(tactic| fail "lf") => `(tactic| first
  | ((with_reducible show _ = _); exact rfl)
  | ((with_reducible show _ ≤ _); fail "le")
  | ((with_reducible show _ < _); first | decide | fail "as" | omega)
  | fail "sq"
  | ((with_reducible show CDiv _ _); exact ⟨by decide, by decide⟩)
  | ((with_reducible show CMul _ _); first | exact .inl ⟨by decide, by decide⟩ | exact .inr ⟨by decide, by decide⟩ | exact .inl ⟨by omega, by omega⟩ | exact .inr ⟨by omega, by omega⟩)
  | exact ⟨_, rfl⟩
  | exact ⟨_, by fail "sq"⟩
  | (show (0 : Int) < _; first | decide | omega)
  | (show (_ : Int) ≠ 0; first | decide | omega))
local macro_rules | `(tactic| fail "dp") => `(tactic| first
  | exact .str _ | exact .int _ | exact .bl _ | exact .non
  | exact .tup (by fail "seq") (by fail "dps")
  | exact .lst (by fail "seq") (by fail "dps"))
local macro_rules | `(tactic| fail "dps") => `(tactic| first
  | exact .nil
  | exact .cons (by fail "dp") (by fail "dps")
  | exact dpAll_strs _)
local macro_rules | `(tactic| fail "gE") => `(tactic| first
  | refine ⟨_, rfl, ?_⟩
  | refine ⟨_, _, rfl, rfl, ?_⟩
  | refine ⟨_, _, rfl, ?_⟩
  | refine ⟨_, rfl, rfl, ?_⟩
  | refine ⟨_, _, _, rfl, rfl, ?_⟩
  | refine ⟨_, by fail "sq", ?_⟩
  | refine ⟨_, _, rfl, by fail "sq", rfl, ?_⟩
  | refine ⟨_, (show Dp _ _ _ _ by fail "dp"), ?_⟩
  | refine ⟨_, TyW.int _, ?_⟩
  | refine ⟨_, TyW.str _, ?_⟩
  | refine ⟨_, TyW.non, ?_⟩
  | refine ⟨_, TyW.bl _, ?_⟩
  | refine ⟨_, TyW.tup (by fail "look"), ?_⟩
  | refine ⟨_, TyW.lst (by fail "look"), ?_⟩)
local macro_rules | `(tactic| fail "g1") => `(tactic| first
  | (refine (show ∃ _, _ from ?_); fail "gE")
  | (refine (show _ ∧ _ from ?_); refine And.intro (by fail "lf") ?_))
local macro_rules | `(tactic| fail "go") => `(tactic| repeat (fail "g1"))
local macro_rules | `(tactic| fail "gi") => `(tactic| repeat (first
  | fail "g1"
  | refine (show Ret _ _ _ from fun H' s' => ?_)
  | refine (show RetL _ _ _ from fun p H' s' np hp => ?_)
  | refine (show RetT _ _ _ from fun p H' s' np hp => ?_)
  | refine (show ∀ p : Addr, _ = none → _ from fun p hp => ?_)))
def top (i : Nat) : Stmt := PySem.Challenge.pw_onereading_k01_rests_and_steps.main.body.getD i (.Pass ⟨0, 0, 0, 0⟩)
def left (a b : Wd) : Option Wd := if b.isPrefixOf a = true then some (a.drop b.length) else none
section
variable {P : Program} {w : World} {K : PySem.W.Frag} {mg : Str → Option Value} {base : Heap}
abbrev s_left_of : Stmt := top 1
theorem sc_left_of : FnScope ["text", "other"] ["text", "other"] (defScope s_left_of) := ⟨rfl, rfl, rfl, by decide +kernel, rfl, by decide +kernel, by decide +kernel⟩
def sp_left_of : Sp := fun vs H Q _ => ∃ a b : Wd, vs = [sv a, sv b] ∧ a.length ≤ 100000 ∧ b.length ≤ 100000 ∧ Q (optv (left a b)) H
theorem ok_left_of (B : Bi mg) (D : Def K mg "left_of" s_left_of) : Cal P w K mg base CX0 "left_of" 1 ["text", "other"] sp_left_of := by
  have nd := sc_left_of.nd
  refine D.cal sc_left_of (fun _ _ _ _ _ _ us hl => match us, hl with | [_, _], _ => rfl) (fun vs H Q E h => ?_) (fun f cdv A outer s H vs Q E hr h => ?_)
  · obtain ⟨_, _, rfl, _⟩ := h
    rfl
  · obtain ⟨a, b, rfl, ha, hb, q⟩ := h
    refine ⟨_, PSs.nox (pss_cons (ps_if (pt_val (pe_m1 PySem.F.slot_str_startswith PySem.F.type_str_startswith mt_stw (pv 0) (pv 1)))
        (pss_one (ps_ret (pe_slice sl_w (pv 0) (po_some (pe_callB call_lenw (by rfl) B.len PySem.boot_len (pa_cons (pv 1) pa_nil))) po_none)))
        pss_nil)
      (pss_one (ps_ret pe_non))), ?_⟩
    try dsimp only [cxOf, Cx.nox, Cx.wish]
    unfold left at q
    fail "go"
    refine itb (fun e => ?_) fun e => ?_
    · rw [if_pos e] at q
      fail "go"
      rw [cutW_from]
      exact q
    · rw [if_neg (by rw [e]; decide)] at q
      exact q
/-- how many signs two texts begin with alike -/
def shr : Wd → Wd → Nat
  | a :: r, b :: t => if a = b then shr r t + 1 else 0
  | _, _ => 0
theorem shr_cons (x y : Nat) (r t : Wd) : shr (x :: r) (y :: t) = if x = y then shr r t + 1 else 0 := rfl
abbrev s_shared : Stmt := top 2
theorem sc_shared : FnScope ["text", "other", "many"] ["text", "other"] (defScope s_shared) := ⟨rfl, rfl, rfl, by decide +kernel, rfl, by decide +kernel, by decide +kernel⟩
def sp_shared : Sp := fun vs H Q _ => ∃ a b : Wd, vs = [sv a, sv b] ∧ a.length ≤ 100000 ∧ b.length ≤ 100000 ∧ Q (.int (shr a b : Nat)) H
theorem ok_shared (B : Bi mg) (D : Def K mg "shared" s_shared) : Cal P w K mg base CX0 "shared" 1 ["text", "other"] sp_shared := by
  have nd := sc_shared.nd
  refine D.cal sc_shared (fun _ _ _ _ _ _ us hl => match us, hl with | [_, _], _ => rfl) (fun vs H Q E h => ?_) (fun f cdv A outer s H vs Q E hr h => ?_)
  · obtain ⟨_, _, rfl, _⟩ := h
    rfl
  · obtain ⟨a, b, rfl, ha, hb, q⟩ := h
    refine ⟨_, PSs.nox (pss_cons (ps_set (i := 2) nd rfl (.inl rfl) pe_int)
      (pss_cons (ps_while PassesOwn.never (PW.pt (pw_and (pt_cmpR op_lt (pv 2) (pe_callB call_lenw (by rfl) B.len PySem.boot_len (pa_cons (pv 0) pa_nil)) (nomark _)) (pw_and (pt_cmpR op_lt (pv 2) (pe_callB call_lenw (by rfl) B.len PySem.boot_len (pa_cons (pv 1) pa_nil)) (nomark _)) (pw_and1 (pt_cmpR op_eqw (pe_ix ix_w (pv 0) (pv 2) (fun _ _ => rfl)) (pe_ix ix_w (pv 1) (pv 2) (fun _ _ => rfl)) (nomark _))))))
        (pss_one (ps_set (i := 2) nd rfl (.inl rfl) (pe_op op_add (pv 2) pe_int))))
      (pss_one (ps_ret (pv 2))))), ?_⟩
    try dsimp only [cxOf, Cx.nox, Cx.wish]
    refine ⟨fun m σ H' => ∃ i : Nat, σ = [some (sv a), some (sv b), some (.int i)] ∧ H' = H ∧ m = a.length - i ∧ shr a b = i + shr (a.drop i) (b.drop i), ⟨_, 0, rfl, rfl, rfl, by simp⟩, ?_⟩
    rintro m σ H' ⟨i, rfl, rfl, rfl, e⟩
    have out : shr (a.drop i) (b.drop i) = 0 → Q (.int (i : Nat)) H' := fun z => by
      rw [e, z] at q
      exact q
    fail "go"
    refine itd (fun e1 => ?_) fun e1 => ?_
    · fail "go"
      refine itd (fun e2 => ?_) fun e2 => ?_
      · have h1 : i < a.length := by omega
        have h2 : i < b.length := by omega
        have d1 : a.drop i = a[i] :: a.drop (i + 1) := (List.getElem_cons_drop h1).symm
        have d2 : b.drop i = b[i] :: b.drop (i + 1) := (List.getElem_cons_drop h2).symm
        rw [d1, d2] at e out
        have g1 : a[((i : Nat) : Int).toNat]? = some a[i] := by simp [h1]
        have g2 : b[((i : Nat) : Int).toNat]? = some b[i] := by simp [h2]
        fail "go"
        refine itd (fun e3 => ?_) fun e3 => ?_
        · refine ⟨fun σ' H2 => ∃ m', m' < a.length - i ∧ ∃ i : Nat, σ' = [some (sv a), some (sv b), some (.int i)] ∧ H2 = H' ∧ m' = a.length - i ∧ shr a b = i + shr (a.drop i) (b.drop i), fun _ _ h => h, ?_⟩
          fail "go"
          refine ⟨a.length - (i + 1), by omega, i + 1, rfl, rfl, rfl, ?_⟩
          rw [shr_cons, if_pos (by simpa using e3)] at e
          omega
        · fail "go"
          refine out ?_
          rw [shr_cons, if_neg (by simpa using e3)]
      · fail "go"
        refine out ?_
        rw [List.drop_of_length_le (l := b) (by omega)]
        cases a.drop i <;> rfl
    · fail "go"
      refine out ?_
      rw [List.drop_of_length_le (l := a) (by omega)]
      rfl
def step (r w : Wd) : Option (Wd × Bool) := match left r w with
  | some x => some (x, false)
  | none => match left w r with
    | some x => some (x, true)
    | none => none
abbrev s_stepped : Stmt := top 4
theorem sc_stepped : FnScope ["rest", "word", "found"] ["rest", "word"] (defScope s_stepped) := ⟨rfl, rfl, rfl, by decide +kernel, rfl, by decide +kernel, by decide +kernel⟩
def sp_stepped : Sp := fun vs H Q _ => ∃ a b : Wd, vs = [sv a, sv b] ∧ a.length ≤ 100000 ∧ b.length ≤ 100000 ∧ (step a b = none → Ret H Q .non) ∧ ∀ r k, step a b = some (r, k) → RetT H Q [sv r, .bl k]
theorem ok_stepped (B : Bi mg) (D : Def K mg "stepped" s_stepped) (c_left_of : Cal P w K mg base CX0 "left_of" 1 ["text", "other"] sp_left_of) : Cal P w K mg base CX0 "stepped" 2 ["rest", "word"] sp_stepped := by
  have nd := sc_stepped.nd
  refine D.cal sc_stepped (fun _ _ _ _ _ _ us hl => match us, hl with | [_, _], _ => rfl) (fun vs H Q E h => ?_) (fun f cdv A outer s H vs Q E hr h => ?_)
  · obtain ⟨_, _, rfl, _⟩ := h
    rfl
  · obtain ⟨a, b, rfl, ha, hb, q0, q1⟩ := h
    refine ⟨_, PSs.nox (pss_cons (ps_set (i := 2) nd rfl (.inl rfl) (pe_cal c_left_of hr (pa_cons (pv 0) (pa_cons (pv 1) pa_nil))))
      (pss_cons (ps_if (pt_cmpR op_notN (pv 2) pe_non (nomark _))
        (pss_one (ps_ret (pe_tup (pa_cons (pv 2) (pa_cons pe_bl pa_nil)))))
        pss_nil)
      (pss_cons (ps_set (i := 2) nd rfl (.inl rfl) (pe_cal c_left_of hr (pa_cons (pv 1) (pa_cons (pv 0) pa_nil))))
      (pss_cons (ps_if (pt_cmpR op_notN (pv 2) pe_non (nomark _))
        (pss_one (ps_ret (pe_tup (pa_cons (pv 2) (pa_cons pe_bl pa_nil)))))
        pss_nil)
      (pss_one (ps_ret pe_non)))))), ?_⟩
    try dsimp only [cxOf, Cx.nox, Cx.wish]
    have sn : ∀ x, left a b = some x → step a b = some (x, false) := fun x e => by unfold step; rw [e]
    have sm : ∀ x, left a b = none → left b a = some x → step a b = some (x, true) := fun x e e2 => by unfold step; rw [e, e2]
    have s0 : left a b = none → left b a = none → step a b = none := fun e e2 => by unfold step; rw [e, e2]
    fail "go"
    cases e : left a b with
    | some x =>
      fail "go"
      exact fun p hp => (q1 _ _ (sn x e)).at (Same.refl _) hp
    | none =>
      fail "go"
      cases e2 : left b a with
      | some x =>
        fail "go"
        exact fun p hp => (q1 _ _ (sm x e e2)).at (Same.refl _) hp
      | none =>
        fail "go"
        exact q0 (s0 e e2) _ (Same.refl _)
/-! ### the law's own -/
def cell (ns : List Int) (k : Int) : Int := ns.getD k.toNat 0
abbrev s_law_at : Stmt := top 6
theorem sc_law_at : FnScope ["_law_script", "_law_k"] ["_law_script", "_law_k"] (defScope s_law_at) := ⟨rfl, rfl, rfl, by decide +kernel, rfl, by decide +kernel, by decide +kernel⟩
def sp_law_at (K : PySem.W.Frag) : Sp := fun vs H Q _ => ∃ (p : Addr) (k : Int), vs = [.ref p, .int k] ∧ ∃ ns : List Int, SqL K H p (ns.map V.int) ∧ 0 ≤ k ∧ Q (.int (cell ns k)) H
theorem ok_law_at (B : Bi mg) (D : Def K mg "_law_at" s_law_at) : Cal P w K mg base CX0 "_law_at" 1 ["_law_script", "_law_k"] (sp_law_at K) := by
  have nd := sc_law_at.nd
  refine D.cal sc_law_at (fun _ _ _ _ _ _ us hl => match us, hl with | [_, _], _ => rfl) (fun vs H Q E h => ?_) (fun f cdv A outer s H vs Q E hr h => ?_)
  · obtain ⟨_, _, rfl, _⟩ := h
    rfl
  · obtain ⟨p, k, rfl, ns, hS, h0, q⟩ := h
    refine ⟨_, PSs.nox (pss_cons (ps_if (pt_cmpR op_lt (pv 1) (pe_callB call_lenl (by rfl) B.len PySem.boot_len (pa_cons (pv 0) pa_nil)) (nomark _))
        (pss_one (ps_ret (pe_ix ix_l (pv 0) (pv 1) (fun _ _ => rfl))))
        pss_nil)
      (pss_one (ps_ret pe_int))), ?_⟩
    try dsimp only [cxOf, Cx.nox, Cx.wish]
    fail "go"
    refine itd (fun e => ?_) fun e => ?_
    · rw [List.length_map] at e
      have h1 : k.toNat < ns.length := by omega
      fail "go"
      refine ⟨.int (cell ns k), ?_, q⟩
      rw [List.getElem?_map, List.getElem?_eq_getElem h1]
      unfold cell
      rw [List.getD_eq_getElem?_getD, List.getElem?_eq_getElem h1]
      rfl
    · rw [List.length_map] at e
      have : cell ns k = 0 := by
        unfold cell
        rw [List.getD_eq_getElem?_getD, List.getElem?_eq_none (by omega)]
        rfl
      rw [this] at q
      exact q
def mixed (c k : Int) : Int := (c + 7919 * k + 3) * 48271 % 2147483647 * ((c + 7919 * k + 3) * 48271 % 2147483647) % 2147483629
theorem mixed_nn (c k : Int) : 0 ≤ mixed c k := Int.emod_nonneg _ (by decide)
abbrev s_law_mixed : Stmt := top 7
theorem sc_law_mixed : FnScope ["_law_cell", "_law_k", "_law_number"] ["_law_cell", "_law_k"] (defScope s_law_mixed) := ⟨rfl, rfl, rfl, by decide +kernel, rfl, by decide +kernel, by decide +kernel⟩
def sp_law_mixed : Sp := fun vs H Q _ => ∃ c k : Int, vs = [.int c, .int k] ∧ Q (.int (mixed c k)) H
theorem ok_law_mixed (B : Bi mg) (D : Def K mg "_law_mixed" s_law_mixed) : Cal P w K mg base CX0 "_law_mixed" 1 ["_law_cell", "_law_k"] sp_law_mixed := by
  have nd := sc_law_mixed.nd
  refine D.cal sc_law_mixed (fun _ _ _ _ _ _ us hl => match us, hl with | [_, _], _ => rfl) (fun vs H Q E h => ?_) (fun f cdv A outer s H vs Q E hr h => ?_)
  · obtain ⟨_, _, rfl, _⟩ := h
    rfl
  · obtain ⟨c, k, rfl, q⟩ := h
    refine ⟨_, PSs.nox (pss_cons (ps_set (i := 2) nd rfl (.inl rfl) (pe_op op_mod (pe_op op_mul (pe_op op_add (pe_op op_add (pv 0) (pe_op op_mul pe_int (pv 1))) pe_int) pe_int) pe_int))
      (pss_one (ps_ret (pe_op op_mod (pe_op op_mul (pv 2) (pv 2)) pe_int)))), ?_⟩
    try dsimp only [cxOf, Cx.nox, Cx.wish]
    have h1 := Int.emod_nonneg ((c + 7919 * k + 3) * 48271) (show (2147483647 : Int) ≠ 0 by decide)
    have h2 := Int.emod_lt_of_pos ((c + 7919 * k + 3) * 48271) (show (0 : Int) < 2147483647 by decide)
    fail "go"
    exact q
abbrev s_law_whole : Stmt := top 8
theorem sc_law_whole : FnScope ["_law_found"] ["_law_found"] (defScope s_law_whole) := ⟨rfl, rfl, rfl, by decide +kernel, rfl, by decide +kernel, by decide +kernel⟩
def sp_law_whole : Sp := fun vs H Q _ => ∃ n : Int, vs = [.int n] ∧ Q (.bl true) H
theorem ok_law_whole (B : Bi mg) (D : Def K mg "_law_whole" s_law_whole) : Cal P w K mg base CX0 "_law_whole" 1 ["_law_found"] sp_law_whole := by
  have nd := sc_law_whole.nd
  refine D.cal sc_law_whole (fun _ _ _ _ _ _ us hl => match us, hl with | [_], _ => rfl) (fun vs H Q E h => ?_) (fun f cdv A outer s H vs Q E hr h => ?_)
  · obtain ⟨_, rfl, _⟩ := h
    rfl
  · obtain ⟨n, rfl, q⟩ := h
    refine ⟨_, PSs.nox (pss_one (ps_ret (pe_and (pe_callB (call_is .int) (by rfl) B.isinstance (by decide +kernel) (pa_cons (pv 0) (pa_cons (pe_ty .int (by rfl) B.int (by decide +kernel)) pa_nil))) (pe_one (pe_not (pe_callB (call_is .bl) (by rfl) B.isinstance (by decide +kernel) (pa_cons (pv 0) (pa_cons (pe_ty .bl (by rfl) B.bool (by decide +kernel)) pa_nil)))))))), ?_⟩
    try dsimp only [cxOf, Cx.nox, Cx.wish]
    fail "go"
    exact q
abbrev s_law_text : Stmt := top 9
theorem sc_law_text : FnScope ["_law_cell", "_law_size", "_law_some", "_law_j"] ["_law_cell", "_law_size"] (defScope s_law_text) := ⟨rfl, rfl, rfl, by decide +kernel, rfl, by decide +kernel, by decide +kernel⟩
def sp_law_text1 : Sp := fun vs H Q _ => ∃ c n : Int, vs = [.int c, .int n] ∧ 0 ≤ n ∧ n ≤ 1000 ∧ ∀ a : Wd, a.length = n.toNat → Ret H Q (sv a)
theorem ok_law_text (B : Bi mg) (D : Def K mg "_law_text" s_law_text) (c_law_mixed : Cal P w K mg base CX0 "_law_mixed" 1 ["_law_cell", "_law_k"] sp_law_mixed) : Cal P w K mg base CX0 "_law_text" 2 ["_law_cell", "_law_size"] sp_law_text1 := by
  have nd := sc_law_text.nd
  refine D.cal sc_law_text (fun _ _ _ _ _ _ us hl => match us, hl with | [_, _], _ => rfl) (fun vs H Q E h => ?_) (fun f cdv A outer s H vs Q E hr h => ?_)
  · obtain ⟨_, _, rfl, _⟩ := h
    rfl
  · obtain ⟨c, n, rfl, h0, h1, q⟩ := h
    refine ⟨_, PSs.nox (pss_cons (ps_set (i := 2) nd rfl (.inr rfl) (pe_slice sl_w (pe_w ABC rfl) po_none (po_some (pe_ix ix_l (pe_lst (pa_cons pe_int (pa_cons pe_int (pa_cons pe_int (pa_cons pe_int pa_nil))))) (pe_op op_mod (pv 0) pe_int) (fun _ _ => rfl)))))
      (pss_one (ps_ret (pe_m1 PySem.F.slot_str_join PySem.F.type_str_join mt_jow (pe_w [] rfl) (pe_lc (own := [("_law_j", 3)]) (g := gName 3) (tt := tYes) rfl nd (pi_range1 (by rfl) B.range (pa_cons (pv 1) pa_nil)) (blkOk_by (own := [("_law_j", 3)]) (N := ["_law_cell", "_law_size", "_law_some", "_law_j"]) (sc := defScope s_law_text) (by decide +kernel)) (fun _ _ _ _ _ => (pg_name (i := 3) nd rfl (.inl rfl))) (fun _ _ _ _ _ => pts_nil) (fun _ _ _ _ _ => (pe_ix ix_w (pv 2) (pe_op op_mod (pe_op op_fdiv (pe_cal c_law_mixed hr (pa_cons (pe_op op_fdiv (pv 0) pe_int) (pa_cons (pv 3) pa_nil))) pe_int) (pe_callB call_lenw (by rfl) B.len PySem.boot_len (pa_cons (pv 2) pa_nil))) (fun _ _ => rfl)))))))), ?_⟩
    try dsimp only [cxOf, Cx.nox, Cx.wish]
    fail "go"
    refine fun p hp => ?_
    fail "go"
    have hc0 := Int.emod_nonneg c (show (4 : Int) ≠ 0 by decide)
    have hc1 := Int.emod_lt_of_pos c (show (0 : Int) < 4 by decide)
    obtain ⟨v, hv, ev⟩ := pick (xs := [V.int 26, V.int 1, V.int 2, V.int 3]) hc0 hc1
    obtain ⟨m, rfl, m0, m1⟩ : ∃ m : Nat, v = .int (m : Int) ∧ 1 ≤ m ∧ m ≤ 26 := by
      simp only [List.mem_cons, List.not_mem_nil, or_false] at hv
      rcases hv with rfl | rfl | rfl | rfl
      · exact ⟨26, rfl, by decide, by decide⟩
      · exact ⟨1, rfl, by decide, by decide⟩
      · exact ⟨2, rfl, by decide, by decide⟩
      · exact ⟨3, rfl, by decide, by decide⟩
    refine ⟨_, ev, ?_⟩
    fail "go"
    rw [cutW_to]
    have hl : (ABC.take m).length = m := by
      rw [List.length_take]
      show min m 26 = m
      omega
    fail "go"
    refine fun D hD => ?_
    have hn : ∀ i : Nat, ∃ x : Nat, (ABC.take m)[(mixed (c / 4) (0 + (i : Int)) / 64 % ((ABC.take m).length : Int)).toNat]? = some x := fun i => by
      have hp : (0 : Int) < ((ABC.take m).length : Int) := by omega
      obtain ⟨x, _, e⟩ := pick (xs := ABC.take m) (Int.emod_nonneg _ (Int.ne_of_gt hp)) (Int.emod_lt_of_pos _ hp)
      exact ⟨x, e⟩
    refine lc_rng (lo := 0) (n := n.toNat) (j := 3) (fun i => sv [(hn i).choose]) hD (by omega) (fun i hi H1 e1 Q1 q1 => ?_) (fun H1 e1 h1 => ?_)
    · fail "go"
      refine And.intro (Int.emod_nonneg _ (by omega)) ?_
      exact ⟨_, (hn i).choose_spec, q1 _ (Same.refl _)⟩
    · fail "go"
      have ef := flat1 (fun i => (hn i).choose) (List.range n.toNat)
      have el : ((List.range n.toNat).map fun i => (hn i).choose).length = n.toNat := by rw [List.length_map, List.length_range]
      refine ⟨(List.range n.toNat).map fun i => [(hn i).choose], SqL.of (by rw [h1, List.map_map]; rfl), by rw [ef]; omega, ?_⟩
      rw [ef]
      exact q _ el _ (by fail "same")
abbrev s_law_bent : Stmt := top 10
theorem sc_law_bent : FnScope ["_law_text_here", "_law_cell", "_law_at_here", "_law_sign", "_law_some"] ["_law_text_here", "_law_cell"] (defScope s_law_bent) := ⟨rfl, rfl, rfl, by decide +kernel, rfl, by decide +kernel, by decide +kernel⟩
def sp_law_bent : Sp := fun vs H Q _ => ∃ (a : Wd) (c : Int), vs = [sv a, .int c] ∧ a.length ≤ 1000 ∧ ∀ r : Wd, r.length ≤ a.length + 1 → Ret H Q (sv r)
theorem ok_law_bent (B : Bi mg) (D : Def K mg "_law_bent" s_law_bent) : Cal P w K mg base CX0 "_law_bent" 1 ["_law_text_here", "_law_cell"] sp_law_bent := by
  have nd := sc_law_bent.nd
  refine D.cal sc_law_bent (fun _ _ _ _ _ _ us hl => match us, hl with | [_, _], _ => rfl) (fun vs H Q E h => ?_) (fun f cdv A outer s H vs Q E hr h => ?_)
  · obtain ⟨_, _, rfl, _⟩ := h
    rfl
  · obtain ⟨a, c, rfl, ha, q⟩ := h
    refine ⟨_, PSs.nox (pss_cons (ps_set (i := 2) nd rfl (.inl rfl) (pe_op op_mod (pe_op op_fdiv (pv 1) pe_int) (pe_op op_add (pe_callB call_lenw (by rfl) B.len PySem.boot_len (pa_cons (pv 0) pa_nil)) pe_int)))
      (pss_cons (ps_set (i := 3) nd rfl (.inl rfl) (pe_ix ix_w (pe_w ABC rfl) (pe_op op_mod (pe_op op_fdiv (pv 1) pe_int) pe_int) (fun _ _ => rfl)))
      (pss_cons (ps_set (i := 4) nd rfl (.inl rfl) (pe_lst (pa_cons (pe_slice sl_w (pv 0) po_none (po_some (pv 2))) (pa_cons (pe_slice sl_w (pv 0) po_none (po_some (pv 2))) (pa_cons (pv 0) (pa_cons (pe_op op_addw (pv 0) (pv 3)) (pa_cons (pe_op op_addw (pe_slice sl_w (pv 0) po_none (po_some (pv 2))) (pv 3)) (pa_cons (pe_op op_addw (pe_op op_addw (pe_slice sl_w (pv 0) po_none (po_some (pv 2))) (pv 3)) (pe_slice sl_w (pv 0) (po_some (pe_op op_add (pv 2) pe_int)) po_none)) (pa_cons (pv 3) (pa_cons (pe_w [] rfl) pa_nil))))))))))
      (pss_one (ps_ret (pe_ix ix_l (pv 4) (pe_op op_mod (pv 1) pe_int) (fun _ _ => rfl))))))), ?_⟩
    try dsimp only [cxOf, Cx.nox, Cx.wish]
    have hc0 := Int.emod_nonneg (c / 256) (show (26 : Int) ≠ 0 by decide)
    have hc1 := Int.emod_lt_of_pos (c / 256) (show (0 : Int) < 26 by decide)
    obtain ⟨g, _, eg⟩ := pick (xs := ABC) hc0 hc1
    have hd0 := Int.emod_nonneg c (show (8 : Int) ≠ 0 by decide)
    have hd1 := Int.emod_lt_of_pos c (show (0 : Int) < 8 by decide)
    have l1 := cutW_len a none (some (c / 8 % ((a.length : Int) + 1)))
    have l2 := cutW_len a (some (c / 8 % ((a.length : Int) + 1) + 1)) none
    fail "go"
    refine fun p hp => ?_
    fail "go"
    obtain ⟨v, hv, ev⟩ := pick (xs := [cutW a none (some (c / 8 % ((a.length : Int) + 1))), cutW a none (some (c / 8 % ((a.length : Int) + 1))), a, a ++ [g], cutW a none (some (c / 8 % ((a.length : Int) + 1))) ++ [g], cutW a none (some (c / 8 % ((a.length : Int) + 1))) ++ [g] ++ cutW a (some (c / 8 % ((a.length : Int) + 1) + 1)) none, [g], []]) hd0 hd1
    have lv : v.length ≤ a.length + 1 := by
      have l3 := cut_two a (Int.emod_nonneg (c / 8) (show (a.length : Int) + 1 ≠ 0 by omega))
      simp only [List.mem_cons, List.not_mem_nil, or_false] at hv
      rcases hv with rfl | rfl | rfl | rfl | rfl | rfl | rfl | rfl <;> (try simp only [List.length_append, List.length_cons, List.length_nil]) <;> omega
    refine ⟨sv v, ?_, q v lv _ (by fail "same")⟩
    exact (List.getElem?_map (f := sv) (l := _) (i := _)).trans (by rw [ev])
abbrev s_law_left : Stmt := top 11
theorem sc_law_left : FnScope ["_law_text_here", "_law_other"] ["_law_text_here", "_law_other"] (defScope s_law_left) := ⟨rfl, rfl, rfl, by decide +kernel, rfl, by decide +kernel, by decide +kernel⟩
theorem ok_law_left (B : Bi mg) (D : Def K mg "_law_left" s_law_left) : Cal P w K mg base CX0 "_law_left" 1 ["_law_text_here", "_law_other"] sp_left_of := by
  have nd := sc_law_left.nd
  refine D.cal sc_law_left (fun _ _ _ _ _ _ us hl => match us, hl with | [_, _], _ => rfl) (fun vs H Q E h => ?_) (fun f cdv A outer s H vs Q E hr h => ?_)
  · obtain ⟨_, _, rfl, _⟩ := h
    rfl
  · obtain ⟨a, b, rfl, ha, hb, q⟩ := h
    refine ⟨_, PSs.nox (pss_cons (ps_if (pt_cmpR op_eqw (pe_slice sl_w (pv 0) po_none (po_some (pe_callB call_lenw (by rfl) B.len PySem.boot_len (pa_cons (pv 1) pa_nil)))) (pv 1) (nomark _))
        (pss_one (ps_ret (pe_slice sl_w (pv 0) (po_some (pe_callB call_lenw (by rfl) B.len PySem.boot_len (pa_cons (pv 1) pa_nil))) po_none)))
        pss_nil)
      (pss_one (ps_ret pe_non))), ?_⟩
    try dsimp only [cxOf, Cx.nox, Cx.wish]
    fail "go"
    rw [cutW_to]
    refine itd (fun e => ?_) fun e => ?_
    · fail "go"
      rw [cutW_from]
      unfold left at q
      rw [if_pos (List.isPrefixOf_iff_prefix.mpr (List.prefix_iff_eq_take.mpr e.symm))] at q
      exact q
    · unfold left at q
      rw [if_neg (fun z => e (List.prefix_iff_eq_take.mp (List.isPrefixOf_iff_prefix.mp z)).symm)] at q
      exact q
abbrev s_law_step : Stmt := top 12
theorem sc_law_step : FnScope ["_law_rest", "_law_word"] ["_law_rest", "_law_word"] (defScope s_law_step) := ⟨rfl, rfl, rfl, by decide +kernel, rfl, by decide +kernel, by decide +kernel⟩
theorem ok_law_step (B : Bi mg) (D : Def K mg "_law_step" s_law_step) : Cal P w K mg base CX0 "_law_step" 1 ["_law_rest", "_law_word"] sp_stepped := by
  have nd := sc_law_step.nd
  refine D.cal sc_law_step (fun _ _ _ _ _ _ us hl => match us, hl with | [_, _], _ => rfl) (fun vs H Q E h => ?_) (fun f cdv A outer s H vs Q E hr h => ?_)
  · obtain ⟨_, _, rfl, _⟩ := h
    rfl
  · obtain ⟨a, b, rfl, ha, hb, q0, q1⟩ := h
    refine ⟨_, PSs.nox (pss_cons (ps_if (pt_cmpR op_eqw (pe_slice sl_w (pv 0) po_none (po_some (pe_callB call_lenw (by rfl) B.len PySem.boot_len (pa_cons (pv 1) pa_nil)))) (pv 1) (nomark _))
        (pss_one (ps_ret (pe_tup (pa_cons (pe_slice sl_w (pv 0) (po_some (pe_callB call_lenw (by rfl) B.len PySem.boot_len (pa_cons (pv 1) pa_nil))) po_none) (pa_cons pe_bl pa_nil)))))
        pss_nil)
      (pss_cons (ps_if (pt_cmpR op_eqw (pe_slice sl_w (pv 1) po_none (po_some (pe_callB call_lenw (by rfl) B.len PySem.boot_len (pa_cons (pv 0) pa_nil)))) (pv 0) (nomark _))
        (pss_one (ps_ret (pe_tup (pa_cons (pe_slice sl_w (pv 1) (po_some (pe_callB call_lenw (by rfl) B.len PySem.boot_len (pa_cons (pv 0) pa_nil))) po_none) (pa_cons pe_bl pa_nil)))))
        pss_nil)
      (pss_one (ps_ret pe_non)))), ?_⟩
    try dsimp only [cxOf, Cx.nox, Cx.wish]
    fail "go"
    rw [cutW_to]
    refine itd (fun e => ?_) fun e => ?_
    · fail "go"
      rw [cutW_from]
      refine fun p hp => ?_
      refine (q1 _ _ ?_).at (Same.refl _) hp
      unfold step left
      rw [if_pos (List.isPrefixOf_iff_prefix.mpr (List.prefix_iff_eq_take.mpr e.symm))]
    · fail "go"
      rw [cutW_to]
      have n1 : left a b = none := if_neg (fun z => e (List.prefix_iff_eq_take.mp (List.isPrefixOf_iff_prefix.mp z)).symm)
      refine itd (fun e2 => ?_) fun e2 => ?_
      · fail "go"
        rw [cutW_from]
        refine fun p hp => ?_
        refine (q1 _ _ ?_).at (Same.refl _) hp
        unfold step
        rw [n1]
        unfold left
        rw [if_pos (List.isPrefixOf_iff_prefix.mpr (List.prefix_iff_eq_take.mpr e2.symm))]
      · have n2 : left b a = none := if_neg (fun z => e2 (List.prefix_iff_eq_take.mp (List.isPrefixOf_iff_prefix.mp z)).symm)
        exact q0 (by unfold step; rw [n1, n2]) _ (Same.refl _)
abbrev s_law_shared : Stmt := top 13
theorem sc_law_shared : FnScope ["_law_one", "_law_other", "_law_many"] ["_law_one", "_law_other"] (defScope s_law_shared) := ⟨rfl, rfl, rfl, by decide +kernel, rfl, by decide +kernel, by decide +kernel⟩
theorem ok_law_shared (B : Bi mg) (D : Def K mg "_law_shared" s_law_shared) : Cal P w K mg base CX0 "_law_shared" 1 ["_law_one", "_law_other"] sp_shared := by
  have nd := sc_law_shared.nd
  refine D.cal sc_law_shared (fun _ _ _ _ _ _ us hl => match us, hl with | [_, _], _ => rfl) (fun vs H Q E h => ?_) (fun f cdv A outer s H vs Q E hr h => ?_)
  · obtain ⟨_, _, rfl, _⟩ := h
    rfl
  · obtain ⟨a, b, rfl, ha, hb, q⟩ := h
    refine ⟨_, PSs.nox (pss_cons (ps_set (i := 2) nd rfl (.inl rfl) pe_int)
      (pss_cons (ps_while PassesOwn.never (PW.pt (pw_and (pt_cmpR op_lt (pv 2) (pe_callB (call_min2 rfl) (by rfl) B.min (by decide +kernel) (pa_cons (pe_callB call_lenw (by rfl) B.len PySem.boot_len (pa_cons (pv 0) pa_nil)) (pa_cons (pe_callB call_lenw (by rfl) B.len PySem.boot_len (pa_cons (pv 1) pa_nil)) pa_nil))) (nomark _)) (pw_and1 (pt_cmpR op_eqw (pe_ix ix_w (pv 0) (pv 2) (fun _ _ => rfl)) (pe_ix ix_w (pv 1) (pv 2) (fun _ _ => rfl)) (nomark _)))))
        (pss_one (ps_set (i := 2) nd rfl (.inl rfl) (pe_op op_add (pv 2) pe_int))))
      (pss_one (ps_ret (pv 2))))), ?_⟩
    try dsimp only [cxOf, Cx.nox, Cx.wish]
    refine ⟨fun m σ H' => ∃ i : Nat, σ = [some (sv a), some (sv b), some (.int i)] ∧ H' = H ∧ m = a.length - i ∧ shr a b = i + shr (a.drop i) (b.drop i), ⟨_, 0, rfl, rfl, rfl, by simp⟩, ?_⟩
    rintro m σ H' ⟨i, rfl, rfl, rfl, e⟩
    have out : shr (a.drop i) (b.drop i) = 0 → Q (.int (i : Nat)) H' := fun z => by
      rw [e, z] at q
      exact q
    fail "go"
    refine itd (fun e1 => ?_) fun e1 => ?_
    · have h1 : i < a.length := by split at e1 <;> omega
      have h2 : i < b.length := by split at e1 <;> omega
      have d1 : a.drop i = a[i] :: a.drop (i + 1) := (List.getElem_cons_drop h1).symm
      have d2 : b.drop i = b[i] :: b.drop (i + 1) := (List.getElem_cons_drop h2).symm
      rw [d1, d2] at e out
      have g1 : a[((i : Nat) : Int).toNat]? = some a[i] := by simp [h1]
      have g2 : b[((i : Nat) : Int).toNat]? = some b[i] := by simp [h2]
      fail "go"
      refine itd (fun e3 => ?_) fun e3 => ?_
      · refine ⟨fun σ' H2 => ∃ m', m' < a.length - i ∧ ∃ i : Nat, σ' = [some (sv a), some (sv b), some (.int i)] ∧ H2 = H' ∧ m' = a.length - i ∧ shr a b = i + shr (a.drop i) (b.drop i), fun _ _ h => h, ?_⟩
        fail "go"
        refine ⟨a.length - (i + 1), by omega, i + 1, rfl, rfl, rfl, ?_⟩
        rw [shr_cons, if_pos (by simpa using e3)] at e
        omega
      · fail "go"
        refine out ?_
        rw [shr_cons, if_neg (by simpa using e3)]
    · fail "go"
      refine out ?_
      by_cases h : a.length ≤ i
      · rw [List.drop_of_length_le (l := a) h]; rfl
      · rw [List.drop_of_length_le (l := b) (by split at e1 <;> omega)]
        cases a.drop i <;> rfl
end
end One


set_option Elab.async false
set_option linter.all false
set_option maxRecDepth 100000
set_option maxHeartbeats 4000000
namespace One
open PySem PySem.Spec PyProof.Rows L2
local macro_rules | `(tactic| fail "as") => `(tactic| with_reducible assumption)
local macro_rules | `(tactic| fail "same") => `(tactic| first
  | with_reducible exact Same.refl _
  | fail "as"
  | with_reducible exact Same.trans (by fail "same") (new (by fail "as"))
  | with_reducible exact mutd (by fail "same") (by fail "as")
  | ((with_reducible refine Same.trans ?_ (by fail "as")); fail "same"))
local macro_rules | `(tactic| fail "look") => `(tactic| first
  | with_reducible exact upd_same
  | fail "as"
  | ((with_reducible refine new_at (by fail "as") ?_); fail "look")
  | ((with_reducible refine same_at (by fail "as") ?_); fail "look"))
local macro_rules | `(tactic| fail "seq") => `(tactic| first
  | fail "as"
  | with_reducible exact SqL.of (by fail "look")
  | with_reducible exact SqT.of (by fail "look")
  | ((with_reducible refine Same.seq ?_ (by fail "as")); fail "same")
  | ((with_reducible refine sqT ?_ (by fail "as")); fail "same"))
local macro_rules | `(tactic| fail "sq") => `(tactic| first
  | ((with_reducible show SqL _ _ _ _); fail "seq")
  | ((with_reducible show SqT _ _ _ _); fail "seq")
  | ((with_reducible show _ = some _); fail "look"))
local macro_rules | `(tactic| fail "le") => `(tactic| first
  | fail "as"
  | with_reducible exact sz (by simp)
  | ((try simp only [List.length_append, List.length_cons, List.length_nil]); omega)
  | decide)
local macro_rules | `(tactic| fail "lf") => `(tactic| first
  | ((with_reducible show _ = _); exact rfl)
  | ((with_reducible show _ ≤ _); fail "le")
  | ((with_reducible show _ < _); first | decide | fail "as" | omega)
  | fail "sq"
  | ((with_reducible show CDiv _ _); exact ⟨by decide, by decide⟩)
  | ((with_reducible show CMul _ _); first | exact .inl ⟨by decide, by decide⟩ | exact .inr ⟨by decide, by decide⟩ | exact .inl ⟨by omega, by omega⟩ | exact .inr ⟨by omega, by omega⟩)
  | exact ⟨_, rfl⟩
  | exact ⟨_, by fail "sq"⟩
  | (show (0 : Int) < _; first | decide | omega)
  | (show (_ : Int) ≠ 0; first | decide | omega))
local macro_rules | `(tactic| fail "dp") => `(tactic| first
  | exact .str _ | exact .int _ | exact .bl _ | exact .non
  | exact .tup (by fail "seq") (by fail "dps")
  | exact .lst (by fail "seq") (by fail "dps"))
local macro_rules | `(tactic| fail "dps") => `(tactic| first
  | exact .nil
  | exact .cons (by fail "dp") (by fail "dps")
  | exact dpAll_strs _)
local macro_rules | `(tactic| fail "gE") => `(tactic| first
  | refine ⟨_, rfl, ?_⟩
  | refine ⟨_, _, rfl, rfl, ?_⟩
  | refine ⟨_, _, rfl, ?_⟩
  | refine ⟨_, rfl, rfl, ?_⟩
  | refine ⟨_, _, _, rfl, rfl, ?_⟩
  | refine ⟨_, by fail "sq", ?_⟩
  | refine ⟨_, _, rfl, by fail "sq", rfl, ?_⟩
  | refine ⟨_, (show Dp _ _ _ _ by fail "dp"), ?_⟩
  | refine ⟨_, TyW.int _, ?_⟩
  | refine ⟨_, TyW.str _, ?_⟩
  | refine ⟨_, TyW.non, ?_⟩
  | refine ⟨_, TyW.bl _, ?_⟩
  | refine ⟨_, TyW.tup (by fail "look"), ?_⟩
  | refine ⟨_, TyW.lst (by fail "look"), ?_⟩)
local macro_rules | `(tactic| fail "g1") => `(tactic| first
  | (refine (show ∃ _, _ from ?_); fail "gE")
  | (refine (show _ ∧ _ from ?_); refine And.intro (by fail "lf") ?_))
local macro_rules | `(tactic| fail "go") => `(tactic| repeat (fail "g1"))
local macro_rules | `(tactic| fail "gi") => `(tactic| repeat (first
  | fail "g1"
  | refine (show Ret _ _ _ from fun H' s' => ?_)
  | refine (show RetL _ _ _ from fun p H' s' np hp => ?_)
  | refine (show RetT _ _ _ from fun p H' s' np hp => ?_)
  | refine (show ∀ p : Addr, _ = none → _ from fun p hp => ?_)))
section
variable {P : Program} {w : World} {K : PySem.W.Frag} {mg : Str → Option Value} {base : Heap}
abbrev s_law : Stmt := top 14
theorem sc_law : FnScope ["_law_script", "_law_text_here", "_law_other", "_law_one", "_law_two", "_law_found", "_law_due", "_law_many", "_law_rest", "_law_words", "_law_word"] ["_law_script"] (defScope s_law) := ⟨rfl, rfl, rfl, by decide +kernel, rfl, by decide +kernel, by decide +kernel⟩
def sp_law (K : PySem.W.Frag) : Sp := fun vs H Q _ => ∃ (a : Addr) (ns : List Int), vs = [.ref a] ∧ SqL K H a (ns.map V.int) ∧ ns.length ≤ 63 ∧ ∀ H', Q (.bl true) H'
theorem ok_law {fl : Addr} {fd : FuncData} (B : Bi mg) (F : FunD K "law" "law" (defArgs s_law) (defBody s_law) (defScope s_law) [] [] fl fd) (c_law_at : Cal P w K mg base CX0 "_law_at" 1 ["_law_script", "_law_k"] (sp_law_at K)) (c_law_text : Cal P w K mg base CX0 "_law_text" 2 ["_law_cell", "_law_size"] sp_law_text1) (c_law_bent : Cal P w K mg base CX0 "_law_bent" 1 ["_law_text_here", "_law_cell"] sp_law_bent) (c_left_of : Cal P w K mg base CX0 "left_of" 1 ["text", "other"] sp_left_of) (c_law_left : Cal P w K mg base CX0 "_law_left" 1 ["_law_text_here", "_law_other"] sp_left_of) (c_shared : Cal P w K mg base CX0 "shared" 1 ["text", "other"] sp_shared) (c_law_shared : Cal P w K mg base CX0 "_law_shared" 1 ["_law_one", "_law_other"] sp_shared) (c_law_whole : Cal P w K mg base CX0 "_law_whole" 1 ["_law_found"] sp_law_whole) (c_stepped : Cal P w K mg base CX0 "stepped" 2 ["rest", "word"] sp_stepped) (c_law_step : Cal P w K mg base CX0 "_law_step" 1 ["_law_rest", "_law_word"] sp_stepped) : FnOk P w K mg base CX0 3 fl fd ["_law_script"] (sp_law K) := by
  have nd := sc_law.nd
  refine F.ok sc_law (fun vs H Q E h => ?_) (fun cdv A outer s H vs Q E hr h => ?_)
  · obtain ⟨_, _, rfl, _⟩ := h
    rfl
  · obtain ⟨sa, ns, rfl, hS, _, q⟩ := h
    refine ⟨_, PSs.nox (pss_cons (ps_set (i := 1) nd rfl (.inl rfl) (pe_cal c_law_text hr (pa_cons (pe_cal c_law_at hr (pa_cons (pv 0) (pa_cons pe_int pa_nil))) (pa_cons (pe_op op_mod (pe_cal c_law_at hr (pa_cons (pv 0) (pa_cons pe_int pa_nil))) pe_int) pa_nil))))
      (pss_cons (ps_set (i := 2) nd rfl (.inl rfl) (pe_cal c_law_bent hr (pa_cons (pv 1) (pa_cons (pe_cal c_law_at hr (pa_cons (pv 0) (pa_cons pe_int pa_nil))) pa_nil))))
      (pss_cons (ps_for PassesOwn.never rfl (pi_list (pe_lst (pa_cons (pe_tup (pa_cons (pv 1) (pa_cons (pv 2) pa_nil))) (pa_cons (pe_tup (pa_cons (pv 2) (pa_cons (pv 1) pa_nil))) pa_nil)))) (pg_tup rfl (pgs_cons (pg_name (i := 3) nd rfl (.inl rfl)) (pgs_cons (pg_name (i := 4) nd rfl (.inl rfl)) pgs_nil)))
        (pss_cons (ps_set (i := 5) nd rfl (.inl rfl) (pe_cal c_left_of hr (pa_cons (pv 3) (pa_cons (pv 4) pa_nil))))
        (pss_cons (ps_set (i := 6) nd rfl (.inl rfl) (pe_cal c_law_left hr (pa_cons (pv 3) (pa_cons (pv 4) pa_nil))))
        (pss_cons (ps_if (PW.pt (pw_or (pt_cmpR op_neo (pv 5) (pv 6) (nomark _)) (pw_or1 (PW.pt (pw_and (pt_cmpR op_notN (pv 6) pe_non (nomark _)) (pw_and1 (pt_not (pt_val (pe_callB (call_is .str) (by rfl) B.isinstance (by decide +kernel) (pa_cons (pv 5) (pa_cons (pe_ty .str (by rfl) B.str (by decide +kernel)) pa_nil)))))))))))
          (pss_one (ps_ret pe_bl))
          pss_nil)
        (pss_cons (ps_set (i := 7) nd rfl (.inl rfl) (pe_cal c_shared hr (pa_cons (pv 3) (pa_cons (pv 4) pa_nil))))
        (pss_one (ps_if (PW.pt (pw_or (pt_not (pt_val (pe_cal c_law_whole hr (pa_cons (pv 7) pa_nil)))) (pw_or1 (pt_cmpR op_nen (pv 7) (pe_cal c_law_shared hr (pa_cons (pv 3) (pa_cons (pv 4) pa_nil))) (nomark _)))))
          (pss_one (ps_ret pe_bl))
          pss_nil)))))))
      (pss_cons (ps_set (i := 8) nd rfl (.inl rfl) (pe_slice sl_w (pv 1) po_none (po_some (pe_op op_mod (pe_cal c_law_at hr (pa_cons (pv 0) (pa_cons pe_int pa_nil))) pe_int))))
      (pss_cons (ps_set (i := 9) nd rfl (.inl rfl) (pe_lst (pa_cons (pe_slice sl_w (pe_cal c_law_bent hr (pa_cons (pv 8) (pa_cons (pe_cal c_law_at hr (pa_cons (pv 0) (pa_cons pe_int pa_nil))) pa_nil))) po_none (po_some pe_int)) (pa_cons (pe_cal c_law_text hr (pa_cons (pe_cal c_law_at hr (pa_cons (pv 0) (pa_cons pe_int pa_nil))) (pa_cons (pe_op op_add pe_int (pe_op op_mod (pe_cal c_law_at hr (pa_cons (pv 0) (pa_cons pe_int pa_nil))) pe_int)) pa_nil))) pa_nil))))
      (pss_cons (ps_for PassesOwn.never rfl (pi_list (pe_op op_catl (pv 9) (pe_lst (pa_cons (pe_slice sl_w (pe_op op_addw (pv 8) (pe_ix ix_l (pv 9) pe_int (fun _ _ => rfl))) po_none (po_some pe_int)) pa_nil)))) (pg_name (i := 10) nd rfl (.inl rfl))
        (pss_one (ps_if (pt_cmpR op_new (pv 10) (pe_w [] rfl) (nomark _))
          (pss_cons (ps_set (i := 5) nd rfl (.inl rfl) (pe_cal c_stepped hr (pa_cons (pv 8) (pa_cons (pv 10) pa_nil))))
          (pss_cons (ps_set (i := 6) nd rfl (.inl rfl) (pe_cal c_law_step hr (pa_cons (pv 8) (pa_cons (pv 10) pa_nil))))
          (pss_cons (ps_if (PW.pt (pw_and (pt_cmpR op_isN (pv 6) pe_non (nomark _)) (pw_and1 (pt_cmpR op_notN (pv 5) pe_non (nomark _)))))
            (pss_one (ps_ret pe_bl))
            pss_nil)
          (pss_cons (ps_if (PW.pt (pw_and (pt_cmpR op_notN (pv 6) pe_non (nomark _)) (pw_and1 (PW.pt (pw_or (pt_not (pt_val (pe_callB (call_is .tup) (by rfl) B.isinstance (by decide +kernel) (pa_cons (pv 5) (pa_cons (pe_ty .tup (by rfl) B.tuple (by decide +kernel)) pa_nil))))) (pw_or1 (pt_cmpR (op_nep hr.units) (pv 5) (pv 6) (nomark _))))))))
            (pss_one (ps_ret pe_bl))
            pss_nil)
          (pss_one (ps_if (PW.pt (pw_and (pt_cmpR op_notN (pv 6) pe_non (nomark _)) (pw_and1 (pt_not (pt_val (pe_callB (call_is .bl) (by rfl) B.isinstance (by decide +kernel) (pa_cons (pe_ix ix_t (pv 5) pe_int (fun _ _ => rfl)) (pa_cons (pe_ty .bl (by rfl) B.bool (by decide +kernel)) pa_nil))))))))
            (pss_one (ps_ret pe_bl))
            pss_nil))))))
          pss_nil)))
      (pss_one (ps_ret pe_bl)))))))), ?_⟩
    try dsimp only [cxOf, Cx.nox, Cx.wish]
    fail "gi"
    intro a la
    have la2 : a.length ≤ 31 := by
      have := Int.emod_lt_of_pos (cell ns 1) (show (0 : Int) < 31 by decide)
      omega
    fail "gi"
    intro b lb
    fail "gi"
    rename_i p1 hp1 p2 hp2 p3 hp3
    refine for_g (SqL.of upd_same) (fun _ σ => ∃ x3 x4 x5 x6 x7, σ = [some (.ref sa), some (sv a), some (sv b), x3, x4, x5, x6, x7, none, none, none]) ⟨none, none, none, none, none, rfl⟩ ?_ ?_
    · rintro i x σ' H1 hx ⟨x3, x4, x5, x6, x7, rfl⟩ s1
      obtain ⟨p, u, v, rfl, hp, hu, hv⟩ : ∃ (p : Addr) (u v : Wd), x = .ref p ∧ H1 p = some (.tup [sv u, sv v]) ∧ u.length ≤ 100 ∧ v.length ≤ 100 := by
        rcases i with _ | _ | i
        · obtain rfl : V.ref p1 = x := Option.some.inj hx
          exact ⟨p1, a, b, rfl, s1 _ _ (by fail "look"), by omega, by omega⟩
        · obtain rfl : V.ref p2 = x := Option.some.inj hx
          exact ⟨p2, b, a, rfl, s1 _ _ (by fail "look"), by omega, by omega⟩
        · cases hx
      fail "gi"
      refine itn (fun e => absurd rfl e) fun _ => ?_
      cases e : left u v
      all_goals
        fail "gi"
        refine itn (fun e => absurd rfl e) fun _ => ?_
        fail "gi"
        exact ⟨⟨_, _, _, _, _, rfl⟩, by fail "same"⟩
    · rintro σ' H1 ⟨x3, x4, x5, x6, x7, rfl⟩ s1
      fail "gi"
      have l1 := cutW_len a none (some (cell ns 3 % 11))
      refine And.intro (by omega) ?_
      intro b2 lb2
      fail "gi"
      intro c lc
      have hc0 := Int.emod_nonneg (cell ns 6) (show (10 : Int) ≠ 0 by decide)
      have hc1 := Int.emod_lt_of_pos (cell ns 6) (show (0 : Int) < 10 by decide)
      have l3 := cutW_len b2 none (some 10)
      fail "gi"
      have l4 := cutW_len (cutW a none (some (cell ns 3 % 11)) ++ c) none (some 10)
      refine for_g (SqL.of upd_same) (fun _ σ => ∃ y5 y6 y7 y10 p9, σ = [some (.ref sa), some (sv a), some (sv b), x3, x4, y5, y6, y7, some (sv (cutW a none (some (cell ns 3 % 11)))), p9, y10]) ⟨_, _, _, _, _, rfl⟩ ?_ ?_
      · rintro i x σ' H2 hx ⟨y5, y6, y7, y10, p9, rfl⟩ s2
        obtain ⟨z, rfl, hz⟩ : ∃ z : Wd, x = sv z ∧ z.length ≤ 1000 := by
          rcases i with _ | _ | _ | i
          · obtain rfl := Option.some.inj hx
            exact ⟨_, rfl, by omega⟩
          · obtain rfl := Option.some.inj hx
            exact ⟨_, rfl, by omega⟩
          · obtain rfl := Option.some.inj hx
            exact ⟨_, rfl, by rw [List.length_append] at l4; omega⟩
          · cases hx
        have fin : ∀ y5 y6 H3, Same H2 H3 → (∃ y5' y6' y7' y10' p9', ([some (.ref sa), some (sv a), some (sv b), x3, x4, y5, y6, y7, some (sv (cutW a none (some (cell ns 3 % 11)))), p9, some (sv z)] : L2.St) = [some (.ref sa), some (sv a), some (sv b), x3, x4, y5', y6', y7', some (sv (cutW a none (some (cell ns 3 % 11)))), p9', y10']) := fun _ _ _ _ => ⟨_, _, _, _, _, rfl⟩
        fail "go"
        refine itn (fun e0 => ?_) (fun e0 => ⟨⟨_, _, _, _, _, rfl⟩, by fail "same"⟩)
        fail "go"
        cases e : step (cutW a none (some (cell ns 3 % 11))) z with
        | none =>
          refine And.intro (fun _ => ?_) (fun _ _ h => nomatch h)
          fail "gi"
          rw [e]
          refine And.intro (fun _ => ?_) (fun _ _ h => nomatch h)
          fail "gi"
          exact ⟨⟨_, _, _, _, _, rfl⟩, by fail "same"⟩
        | some rk =>
          obtain ⟨r, k⟩ := rk
          refine And.intro (fun h => nomatch h) (fun r' k' h => ?_)
          obtain ⟨rfl, rfl⟩ := Prod.mk.inj (Option.some.inj h)
          fail "gi"
          rw [e]
          refine And.intro (fun h => nomatch h) (fun r' k' h => ?_)
          obtain ⟨rfl, rfl⟩ := Prod.mk.inj (Option.some.inj h)
          fail "gi"
          rw [eqv_self (d := .tuple [.str (S r), .bool k]) rfl]
          fail "gi"
          exact ⟨⟨_, _, _, _, _, rfl⟩, by fail "same"⟩
      · rintro σ' H2 ⟨y5, y6, y7, y10, p9, rfl⟩ s2
        fail "go"
        exact q _
end
end One


set_option Elab.async false
set_option linter.all false
set_option maxRecDepth 100000
set_option maxHeartbeats 4000000
namespace One
open PySem PySem.Spec PyProof.Rows L2
local macro_rules | `(tactic| fail "as") => `(tactic| with_reducible assumption)
local macro_rules | `(tactic| fail "same") => `(tactic| first
  | with_reducible exact Same.refl _
  | fail "as"
  | with_reducible exact Same.trans (by fail "same") (new (by fail "as"))
  | with_reducible exact mutd (by fail "same") (by fail "as")
  | ((with_reducible refine Same.trans ?_ (by fail "as")); fail "same"))
local macro_rules | `(tactic| fail "look") => `(tactic| first
  | with_reducible exact upd_same
  | fail "as"
  | ((with_reducible refine new_at (by fail "as") ?_); fail "look")
  | ((with_reducible refine same_at (by fail "as") ?_); fail "look"))
local macro_rules | `(tactic| fail "seq") => `(tactic| first
  | fail "as"
  | with_reducible exact SqL.of (by fail "look")
  | with_reducible exact SqT.of (by fail "look")
  | ((with_reducible refine Same.seq ?_ (by fail "as")); fail "same")
  | ((with_reducible refine sqT ?_ (by fail "as")); fail "same"))
local macro_rules | `(tactic| fail "sq") => `(tactic| first
  | ((with_reducible show SqL _ _ _ _); fail "seq")
  | ((with_reducible show SqT _ _ _ _); fail "seq")
  | ((with_reducible show _ = some _); fail "look"))
local macro_rules | `(tactic| fail "le") => `(tactic| first
  | fail "as"
  | with_reducible exact sz (by simp)
  | ((try simp only [List.length_append, List.length_cons, List.length_nil]); omega)
  | decide)
local macro_rules | `(tactic| fail "lf") => `(tactic| first
  | ((with_reducible show _ = _); exact rfl)
  | ((with_reducible show _ ≤ _); fail "le")
  | ((with_reducible show _ < _); first | decide | fail "as" | omega)
  | fail "sq"
  | ((with_reducible show CDiv _ _); exact ⟨by decide, by decide⟩)
  | ((with_reducible show CMul _ _); first | exact .inl ⟨by decide, by decide⟩ | exact .inr ⟨by decide, by decide⟩ | exact .inl ⟨by omega, by omega⟩ | exact .inr ⟨by omega, by omega⟩)
  | exact ⟨_, rfl⟩
  | exact ⟨_, by fail "sq"⟩
  | (show (0 : Int) < _; first | decide | omega)
  | (show (_ : Int) ≠ 0; first | decide | omega))
local macro_rules | `(tactic| fail "dp") => `(tactic| first
  | exact .str _ | exact .int _ | exact .bl _ | exact .non
  | exact .tup (by fail "seq") (by fail "dps")
  | exact .lst (by fail "seq") (by fail "dps"))
local macro_rules | `(tactic| fail "dps") => `(tactic| first
  | exact .nil
  | exact .cons (by fail "dp") (by fail "dps")
  | exact dpAll_strs _)
local macro_rules | `(tactic| fail "gE") => `(tactic| first
  | refine ⟨_, rfl, ?_⟩
  | refine ⟨_, _, rfl, rfl, ?_⟩
  | refine ⟨_, _, rfl, ?_⟩
  | refine ⟨_, rfl, rfl, ?_⟩
  | refine ⟨_, _, _, rfl, rfl, ?_⟩
  | refine ⟨_, by fail "sq", ?_⟩
  | refine ⟨_, _, rfl, by fail "sq", rfl, ?_⟩
  | refine ⟨_, (show Dp _ _ _ _ by fail "dp"), ?_⟩
  | refine ⟨_, TyW.int _, ?_⟩
  | refine ⟨_, TyW.str _, ?_⟩
  | refine ⟨_, TyW.non, ?_⟩
  | refine ⟨_, TyW.bl _, ?_⟩
  | refine ⟨_, TyW.tup (by fail "look"), ?_⟩
  | refine ⟨_, TyW.lst (by fail "look"), ?_⟩)
local macro_rules | `(tactic| fail "g1") => `(tactic| first
  | (refine (show ∃ _, _ from ?_); fail "gE")
  | (refine (show _ ∧ _ from ?_); refine And.intro (by fail "lf") ?_))
local macro_rules | `(tactic| fail "go") => `(tactic| repeat (fail "g1"))
local macro_rules | `(tactic| fail "gi") => `(tactic| repeat (first
  | fail "g1"
  | refine (show Ret _ _ _ from fun H' s' => ?_)
  | refine (show RetL _ _ _ from fun p H' s' np hp => ?_)
  | refine (show RetT _ _ _ from fun p H' s' np hp => ?_)
  | refine (show ∀ p : Addr, _ = none → _ from fun p hp => ?_)))
/-! ### the head -/
def dd_left_of : He.DefD := ⟨("left_of", none), "left_of", "left_of", defArgs s_left_of, defBody s_left_of, defScope s_left_of, [], []⟩
def dd_shared : He.DefD := ⟨("shared", none), "shared", "shared", defArgs s_shared, defBody s_shared, defScope s_shared, [], []⟩
def dd_stepped : He.DefD := ⟨("stepped", none), "stepped", "stepped", defArgs s_stepped, defBody s_stepped, defScope s_stepped, [], []⟩
def dd_law_at : He.DefD := ⟨("_law_at", none), "_law_at", "_law_at", defArgs s_law_at, defBody s_law_at, defScope s_law_at, [], []⟩
def dd_law_mixed : He.DefD := ⟨("_law_mixed", none), "_law_mixed", "_law_mixed", defArgs s_law_mixed, defBody s_law_mixed, defScope s_law_mixed, [], []⟩
def dd_law_whole : He.DefD := ⟨("_law_whole", none), "_law_whole", "_law_whole", defArgs s_law_whole, defBody s_law_whole, defScope s_law_whole, [], []⟩
def dd_law_text : He.DefD := ⟨("_law_text", none), "_law_text", "_law_text", defArgs s_law_text, defBody s_law_text, defScope s_law_text, [], []⟩
def dd_law_bent : He.DefD := ⟨("_law_bent", none), "_law_bent", "_law_bent", defArgs s_law_bent, defBody s_law_bent, defScope s_law_bent, [], []⟩
def dd_law_left : He.DefD := ⟨("_law_left", none), "_law_left", "_law_left", defArgs s_law_left, defBody s_law_left, defScope s_law_left, [], []⟩
def dd_law_step : He.DefD := ⟨("_law_step", none), "_law_step", "_law_step", defArgs s_law_step, defBody s_law_step, defScope s_law_step, [], []⟩
def dd_law_shared : He.DefD := ⟨("_law_shared", none), "_law_shared", "_law_shared", defArgs s_law_shared, defBody s_law_shared, defScope s_law_shared, [], []⟩
def dd_law : He.DefD := ⟨("law", none), "law", "law", defArgs s_law, defBody s_law, defScope s_law, [], []⟩
def fn : List He.DefD := [dd_left_of, dd_shared, dd_stepped, dd_law_at, dd_law_mixed, dd_law_whole, dd_law_text, dd_law_bent, dd_law_left, dd_law_step, dd_law_shared, dd_law]
def fa : List He.Fa := [.glo "left_of", .glo "shared", .glo "stepped", .glo "_law_at", .glo "_law_mixed", .glo "_law_whole", .glo "_law_text", .glo "_law_bent", .glo "_law_left", .glo "_law_step", .glo "_law_shared", .glo "law", .free "len", .free "isinstance", .free "range", .free "sorted", .free "sum", .free "max", .free "min", .free "reversed", .free "list", .free "dict", .free "int", .free "str", .free "tuple", .free "bool", .free "enumerate"]
abbrev R : PySem.W.OpenRow := PySem.W.OpenLaw.row PySem.Challenge.rw_onereading_k01_rests_and_steps
abbrev hk : PySem.W.Hook := He.hookD 4 fa fn
def ob (s : PySem.W.SharedT) : He.AlD := He.obsDG 4 fa fn (HandSHeadRun.getT s)
theorem ob_eq (s : PySem.W.SharedT) : ob s = hk.obs s.abs := He.obsDG_eq (HandSHeadRun.getT_eq s)
def loose0 : List Str := ["left_of", "shared", "stepped", "_law_at", "_law_mixed", "_law_whole", "_law_text", "_law_bent", "_law_left", "_law_step", "_law_shared"]
def loose : List Str := loose0
theorem run (w : World) : HandSHeadRun.RunEq R (PySem.W.view R.prog [14]) hk ob 4000 loose w := by
  intro os
  kernel_rfl
theorem facts {P : Program} {w : World} {K : PySem.W.Frag} {h : Heap} {mg : Str → Option Value} {f : Addr} (X : K.In h) (G : h.Ns mainGlobals mg) (hfa : mg ("law" : Str) = some (.ref f)) (c : He.SaysD fa fn K) :
    ∃ fd : FuncData, (∀ (s : Shared) (v : Value), BindsTo s fd ⟨[v], []⟩ [("_law_script", v)]) ∧ ∀ base : Heap, K.In base → base.Ns mainGlobals mg → FnOk P w K mg base CX0 3 f fd ["_law_script"] (sp_law K) := by
  have D_left_of : Def K mg "left_of" s_left_of := by
    obtain ⟨fd, F⟩ := c.def_ 0 (d := dd_left_of) rfl
    exact ⟨_, fd, He.glo_ok X G (c.fact 0 (f := .glo "left_of") rfl), F⟩
  have D_shared : Def K mg "shared" s_shared := by
    obtain ⟨fd, F⟩ := c.def_ 1 (d := dd_shared) rfl
    exact ⟨_, fd, He.glo_ok X G (c.fact 1 (f := .glo "shared") rfl), F⟩
  have D_stepped : Def K mg "stepped" s_stepped := by
    obtain ⟨fd, F⟩ := c.def_ 2 (d := dd_stepped) rfl
    exact ⟨_, fd, He.glo_ok X G (c.fact 2 (f := .glo "stepped") rfl), F⟩
  have D_law_at : Def K mg "_law_at" s_law_at := by
    obtain ⟨fd, F⟩ := c.def_ 3 (d := dd_law_at) rfl
    exact ⟨_, fd, He.glo_ok X G (c.fact 3 (f := .glo "_law_at") rfl), F⟩
  have D_law_mixed : Def K mg "_law_mixed" s_law_mixed := by
    obtain ⟨fd, F⟩ := c.def_ 4 (d := dd_law_mixed) rfl
    exact ⟨_, fd, He.glo_ok X G (c.fact 4 (f := .glo "_law_mixed") rfl), F⟩
  have D_law_whole : Def K mg "_law_whole" s_law_whole := by
    obtain ⟨fd, F⟩ := c.def_ 5 (d := dd_law_whole) rfl
    exact ⟨_, fd, He.glo_ok X G (c.fact 5 (f := .glo "_law_whole") rfl), F⟩
  have D_law_text : Def K mg "_law_text" s_law_text := by
    obtain ⟨fd, F⟩ := c.def_ 6 (d := dd_law_text) rfl
    exact ⟨_, fd, He.glo_ok X G (c.fact 6 (f := .glo "_law_text") rfl), F⟩
  have D_law_bent : Def K mg "_law_bent" s_law_bent := by
    obtain ⟨fd, F⟩ := c.def_ 7 (d := dd_law_bent) rfl
    exact ⟨_, fd, He.glo_ok X G (c.fact 7 (f := .glo "_law_bent") rfl), F⟩
  have D_law_left : Def K mg "_law_left" s_law_left := by
    obtain ⟨fd, F⟩ := c.def_ 8 (d := dd_law_left) rfl
    exact ⟨_, fd, He.glo_ok X G (c.fact 8 (f := .glo "_law_left") rfl), F⟩
  have D_law_step : Def K mg "_law_step" s_law_step := by
    obtain ⟨fd, F⟩ := c.def_ 9 (d := dd_law_step) rfl
    exact ⟨_, fd, He.glo_ok X G (c.fact 9 (f := .glo "_law_step") rfl), F⟩
  have D_law_shared : Def K mg "_law_shared" s_law_shared := by
    obtain ⟨fd, F⟩ := c.def_ 10 (d := dd_law_shared) rfl
    exact ⟨_, fd, He.glo_ok X G (c.fact 10 (f := .glo "_law_shared") rfl), F⟩
  have D_law : Def K mg "law" s_law := by
    obtain ⟨fd, F⟩ := c.def_ 11 (d := dd_law) rfl
    exact ⟨_, fd, He.glo_ok X G (c.fact 11 (f := .glo "law") rfl), F⟩
  have B : Bi mg := ⟨He.free_ok X G (c.fact 12 (f := .free "len") rfl), He.free_ok X G (c.fact 13 (f := .free "isinstance") rfl), He.free_ok X G (c.fact 14 (f := .free "range") rfl), He.free_ok X G (c.fact 15 (f := .free "sorted") rfl), He.free_ok X G (c.fact 16 (f := .free "sum") rfl), He.free_ok X G (c.fact 17 (f := .free "max") rfl), He.free_ok X G (c.fact 18 (f := .free "min") rfl), He.free_ok X G (c.fact 19 (f := .free "reversed") rfl), He.free_ok X G (c.fact 20 (f := .free "list") rfl), He.free_ok X G (c.fact 21 (f := .free "dict") rfl), He.free_ok X G (c.fact 22 (f := .free "int") rfl), He.free_ok X G (c.fact 23 (f := .free "str") rfl), He.free_ok X G (c.fact 24 (f := .free "tuple") rfl), He.free_ok X G (c.fact 25 (f := .free "bool") rfl), He.free_ok X G (c.fact 26 (f := .free "enumerate") rfl)⟩
  obtain ⟨f1, fd, hm, F⟩ := D_law
  have e := hfa.symm.trans hm
  cases e
  have b := FunD.bindsA (ps := ["_law_script"]) F fun _ _ _ _ _ _ us hl => match us, hl with | [_], _ => rfl
  refine ⟨fd, fun s v => b s [v] rfl, fun base _ _ => ?_⟩
  have c_left_of := ok_left_of (P := P) (w := w) (base := base) B D_left_of
  have c_shared := ok_shared (P := P) (w := w) (base := base) B D_shared
  have c_stepped := ok_stepped (P := P) (w := w) (base := base) B D_stepped c_left_of
  have c_law_at := ok_law_at (P := P) (w := w) (base := base) B D_law_at
  have c_law_mixed := ok_law_mixed (P := P) (w := w) (base := base) B D_law_mixed
  have c_law_whole := ok_law_whole (P := P) (w := w) (base := base) B D_law_whole
  have c_law_text := ok_law_text (P := P) (w := w) (base := base) B D_law_text c_law_mixed
  have c_law_bent := ok_law_bent (P := P) (w := w) (base := base) B D_law_bent
  have c_law_left := ok_law_left (P := P) (w := w) (base := base) B D_law_left
  have c_law_step := ok_law_step (P := P) (w := w) (base := base) B D_law_step
  have c_law_shared := ok_law_shared (P := P) (w := w) (base := base) B D_law_shared
  exact ok_law B F c_law_at c_law_text c_law_bent c_left_of c_law_left c_shared c_law_shared c_law_whole c_stepped c_law_step
end One
open PySem PySem.W PySem.Calls PyProof.Rows
set_option maxHeartbeats 0 in
theorem PySem.Challenge.cw_onereading_k01_rests_and_steps_holds : PySem.Challenge.rw_onereading_k01_rests_and_steps.Holds := by
  w_on; o_law
  refine HandSHeadRun.head_any (r := One.R) (q := view One.R.prog [14]) (H := One.hk) (ob := One.ob) (M := 4000) (loose := One.loose) (d := HandSHeadRun.topDef One.R.prog 14) (kwd := []) One.ob_eq
    (by kernel_rfl) (fun s => by kernel_rfl) One.run (by kernel_rfl) (by kernel_rfl) (by kernel_rfl) (by rfl) (by first | assumption | decide +kernel) (by decide +kernel) ⟨rfl, rfl, rfl, rfl, rfl, by decide +kernel⟩ ?hw ?hc
  case hw => w_witness2
  case hc =>
    refine L2.walk_ofE (l := PySem.Challenge.rw_onereading_k01_rests_and_steps) (n := 63) (k := 3) (x := "_law_script") (CX := L2.CX0) rfl (by decide) (by kernel_rfl) ⟨rfl, by decide, by decide⟩ ?F (fun _ _ _ _ z => z)
    intro w mg fa h Y G hmg0
    obtain ⟨K, KX, c⟩ := Y
    have hmg : mg ("law" : PySem.Str) = some (.ref fa) := by
      have e : (HandSHeadRun.topDef One.R.prog 14).name = ("law" : PySem.Str) := by kernel_rfl
      rw [← e]
      exact hmg0
    obtain ⟨fd, hb, hF⟩ := One.facts (P := (PySem.Challenge.rw_onereading_k01_rests_and_steps).prog) (w := w) KX G hmg c
    exact ⟨K, fd, One.sp_law K, KX, hb, fun H a ns hl _ hS => ⟨a, ns, rfl, hS, hl, fun _ => rfl⟩, hF⟩

