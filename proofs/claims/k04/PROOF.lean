import PyProof.Rows.All
import Wide.All
import OpenK.AllK
import Wide.FinOn
import KE.KStateDown
import KE.DataEq
import HandS.ForMost
import HandS.Defaults
import HandS.IsInst
import HandS.RevRange
import HandS.SortKw
import HandS.Head0
import HandS.Head1
import HandS.Head2
import HandS.HeadEnd
import HandS.HeadHook1
import HandS.HeadHook2
import KE.SortKeyHeap
import HandS.Walk
import HandS.Dict
import HandS.WordsDict
import HandS.Call
import HandS.More
import HandS.DictComp
import HandS.Finally
import HandS.TryOnly
import KE.DatumOrd
import PyProof.Rows.SortShellAny
import HandS.ExcCtx
import HandS.HotCalls
import HandS.Hot
import HandS.ExcIs
import HandS.ExcOwn
import HandS.HeadHook4
import PySem.Challenge.RW_onereading_k04_partings_told
set_option Elab.async false
set_option linter.all false
set_option maxRecDepth 100000
set_option maxHeartbeats 4000000
/-! One: a small layer over the hand layer: texts as lists of codes, defs by name, heaps that only grow. -/
namespace One
open PySem PySem.Spec PyProof.Rows L2

/-! ### texts -/
abbrev Wd := List Nat
def S (a : Wd) : Str := ⟨a.toArray⟩
abbrev sv (a : Wd) : V := .str (S a)
theorem S_len (a : Wd) : (S a).length = a.length := by
  rw [TL.len_tl]; simp [S]
theorem S_size (a : Wd) : (S a).cps.size = a.length := by simp [S]
theorem S_cps (a : Wd) : (S a).cps.toList = a := by simp [S]
theorem S_inj {a b : Wd} : S a = S b ↔ a = b := by
  constructor
  · intro h
    have := congrArg (fun x : Str => x.cps.toList) h
    simpa [S] using this
  · intro h; rw [h]
theorem sv_inj {a b : Wd} : sv a = sv b ↔ a = b := by
  rw [V.str.injEq]; exact S_inj
theorem S_tl (x : Str) : S (TL.tl x) = x := TL.mk_tl x
theorem S_ex (x : Str) : ∃ a : Wd, x = S a := ⟨TL.tl x, (S_tl x).symm⟩
theorem S_app (a b : Wd) : S a ++ S b = S (a ++ b) := by
  apply TL.ext_tl
  rw [TL.tl_append]
  simp [S, TL.tl]
theorem dec_sv (a b : Wd) : decide (sv a = sv b) = decide (a = b) := by
  by_cases h : a = b
  · subst h; simp
  · rw [decide_eq_false h, decide_eq_false fun z => h (sv_inj.mp z)]
theorem starts_S (a b : Wd) : Txt.startswith (S a) (S b) = b.isPrefixOf a := by
  unfold Txt.startswith
  rw [StrLaws.subAt_eq, S_len, S_len, S_cps, S_cps, List.drop_zero, Nat.zero_add]
  rw [Bool.eq_iff_iff, Bool.and_eq_true, decide_eq_true_iff, beq_iff_eq, List.isPrefixOf_iff_prefix]
  constructor
  · intro h
    rw [← h.2]
    exact List.take_prefix _ _
  · intro h
    exact ⟨h.length_le, (List.prefix_iff_eq_take.mp h).symm⟩
theorem cutS_S (a : Wd) (lo hi : Option Int) : cutS (S a) lo hi = S ((a.drop (HT.sIx a.length 0 lo)).take (HT.sIx a.length a.length hi - HT.sIx a.length 0 lo)) := by
  unfold cutS
  rw [S_len, S_cps]
  rfl
theorem cut_from (a : Wd) (k : Nat) : cutS (S a) (some (k : Int)) none = S (a.drop k) := by
  rw [cutS_S, HT.sIx_none, HT.sIx_nat, S_inj]
  by_cases h : k ≤ a.length
  · rw [Nat.min_eq_left h, List.take_of_length_le]
    rw [List.length_drop]; exact Nat.le_refl _
  · rw [Nat.min_eq_right (by omega), List.drop_of_length_le (by omega), List.drop_of_length_le (by omega), List.take_nil]
theorem cut_to (a : Wd) (k : Nat) : cutS (S a) none (some (k : Int)) = S (a.take k) := by
  rw [cutS_S, HT.sIx_none, HT.sIx_nat, S_inj, List.drop_zero, Nat.sub_zero]
  by_cases h : k ≤ a.length
  · rw [Nat.min_eq_left h]
  · rw [Nat.min_eq_right (by omega), List.take_of_length_le (Nat.le_refl _), List.take_of_length_le (by omega)]
theorem cut_mid (a : Wd) (i k : Nat) : cutS (S a) (some (i : Int)) (some ((i : Int) + (k : Int))) = S ((a.drop i).take k) := by
  rw [cutS_S, show ((i : Int) + (k : Int)) = ((i + k : Nat) : Int) from rfl, HT.sIx_nat, HT.sIx_nat, S_inj]
  by_cases h : i + k ≤ a.length
  · rw [Nat.min_eq_left h, Nat.min_eq_left (by omega), Nat.add_sub_cancel_left]
  · by_cases h2 : i ≤ a.length
    · rw [Nat.min_eq_right (by omega), Nat.min_eq_left h2, List.take_of_length_le, List.take_of_length_le]
      · rw [List.length_drop]; omega
      · rw [List.length_drop]; exact Nat.le_refl _
    · rw [List.drop_of_length_le (l := a) (i := i) (by omega), Nat.min_eq_right (by omega), Nat.min_eq_right (by omega), List.drop_of_length_le (by omega), List.take_nil, List.take_nil]
theorem join_S (xs : List Wd) : Txt.join (S []) (xs.map S) = S xs.flatten := by
  rw [TL.join_eq]
  induction xs with
  | nil => rfl
  | cons x r ih =>
    cases r with
    | nil => 
      simp only [List.map_cons, List.map_nil, List.flatten_cons, List.flatten_nil, List.append_nil]
      rfl
    | cons y r =>
      have e : Str.join (S []) ((x :: y :: r).map S) = S x ++ S [] ++ Str.join (S []) ((y :: r).map S) := rfl
      rw [e, ih, S_app, S_app, List.append_nil]
      simp only [List.flatten_cons]

/-! ### what may be as long -/
theorem sz {n : Nat} (h : n ≤ 100000) : n ≤ sizeLine := Nat.le_trans h (by decide)
theorem szl {n : Nat} (h : n < 100000) : n < sizeLine := Nat.lt_of_lt_of_le h (by decide)
theorem szS {a : Wd} (h : a.length ≤ 100000) : (S a).length ≤ sizeLine := by rw [S_len]; exact sz h

/-! ### heaps that only grow -/
theorem new {H : Hp} {p : Addr} {o : HO} (h : H p = none) : Same H (upd H p o) := fun a u e => by
  rw [upd_ne (ne_of_none e h)]; exact e
/-- an object that H does not know may change -/
theorem mutd {H H' : Hp} {p : Addr} {o : HO} (e : Same H H') (h : H p = none) : Same H (upd H' p o) := fun a u ha => by
  rw [upd_ne (ne_of_none ha h)]; exact e a u ha
theorem sqT {K : PySem.W.Frag} {H H' : Hp} {a : Addr} {xs : List V} (e : Same H H') (h : SqT K H a xs) : SqT K H' a xs := by
  rcases h with h | h
  · rcases h with h | ⟨o, h⟩
    · exact .inl (.inl (e a _ h))
    · exact .inl (.inr ⟨o, e a _ h⟩)
  · exact .inr h
mutual
theorem dp_same {K : PySem.W.Frag} {H H' : Hp} (e : Same H H') : ∀ {d : PyData} {v : V}, Dp K H v d → Dp K H' v d
  | _, _, .non => .non
  | _, _, .bl b => .bl b
  | _, _, .int i => .int i
  | _, _, .str x => .str x
  | _, _, .lst h r => .lst (e.seq h) (dpAll_same e r)
  | _, _, .tup h r => .tup (sqT e h) (dpAll_same e r)
theorem dpAll_same {K : PySem.W.Frag} {H H' : Hp} (e : Same H H') : ∀ {ds : List PyData} {vs : List V}, DpAll K H vs ds → DpAll K H' vs ds
  | _, _, .nil => .nil
  | _, _, .cons h r => .cons (dp_same e h) (dpAll_same e r)
end
/-- lists of texts as data -/
theorem dpAll_strs {K : PySem.W.Frag} {H : Hp} : ∀ xs : List Wd, DpAll K H (xs.map sv) (xs.map fun a => PyData.str (S a))
  | [] => .nil
  | x :: r => .cons (.str _) (dpAll_strs r)

/-! ### the module's names -/
structure Bi (mg : Str → Option Value) : Prop where
  len : mg "len" = none
  isinstance : mg "isinstance" = none
  range : mg "range" = none
  sorted : mg "sorted" = none
  sum : mg "sum" = none
  max : mg "max" = none
  min : mg "min" = none
  reversed : mg "reversed" = none
  list : mg "list" = none
  dict : mg "dict" = none
  int : mg "int" = none
  str : mg "str" = none
  tuple : mg "tuple" = none
  bool : mg "bool" = none
  enumerate : mg "enumerate" = none
/-- a def of the text stands under its name -/
def Def (K : PySem.W.Frag) (mg : Str → Option Value) (x : Str) (st : Stmt) : Prop :=
  ∃ f fd, mg x = some (.ref f) ∧ FunD K x x (defArgs st) (defBody st) (defScope st) [] [] f fd
/-- a def that keeps a promise -/
structure Cal (P : Program) (w : World) (K : PySem.W.Frag) (mg : Str → Option Value) (base : Heap) (CX : CXT) (x : Str) (k : Nat) (ps : List Str) (sp : Sp) : Prop where
  ex : ∃ f fd, mg x = some (.ref f) ∧ PySem.W.keepIn K (.ref f) = true ∧ Binds K fd ps [] ∧ FnOk P w K mg base CX k f fd ps sp
section
variable {P : Program} {w : World} {K : PySem.W.Frag} {mg : Str → Option Value} {base : Heap} {CX : CXT} {x : Str} {st : Stmt} {N ps : List Str} {k : Nat} {sp : Sp}
theorem Def.cal (D : Def K mg x st) (S : FnScope N ps (defScope st))
    (hb : ∀ (kV doc pm : Value) (an : Option Addr) (cdv ct : Value) (us : List Value), us.length = ps.length → bindArgs (PySem.W.fnOf x x (defArgs st) (defBody st) (defScope st) .none kV doc pm an cdv ct) ⟨us, []⟩ = pure (ps.zip us))
    (len : ∀ vs H Q E, sp vs H Q E → vs.length = ps.length)
    (hbody : ∀ (f : Addr) (cdv : Value) (A : Around) (outer : List Env) (s : Shared) (H : Hp) (vs : List V) (Q : VK) (E : XK), Room k (A.deeper (envOfC x (defScope st) s.heap.objs.size f cdv)) → sp vs H Q E →
      ∃ t, PSs (cxOf CX P w K mg base N x (defScope st) f cdv A outer s H E) (defBody st) t ∧ t { nx := fun _ H' => Q .non H', rt := Q } (start N vs) H) : Cal P w K mg base CX x (k + 1) ps sp := by
  obtain ⟨f, fd, hm, F⟩ := D
  exact ⟨f, fd, hm, F.kp, F.bindsN hb, F.ok S len fun cdv A outer s H vs Q E hr h => hbody f cdv A outer s H vs Q E hr h⟩
end
section
variable {X : Cx} {CX : CXT} {j k : Nat} {ps : List Str} {sp : Sp} {E : XK} {x : Str} {p pos : Pos} {e : Expr} {es : List Expr} {t : TA}
theorem pe_calE (C : Cal X.prog X.w X.K X.mg X.base CX x k ps sp) (hr : Room j X.A) (hx : Passes CX X E) (ha : PA X (e :: es) t) (hk : k ≤ j := by decide) (hg : Gl X x := by rfl)
    (hdb : (x == ("__debug__" : Str)) = false := by decide) (he : starEach (e :: es) X.env = (false, eval e X.env) :: starEach es X.env := by rfl)
    (hpl : (backTo pos (starEach es X.env)).any (·.1) = false := by rfl) : PE X (.Call (.Name x p) (e :: es) [] pos) (tCall sp [] E t) := by
  obtain ⟨f, fd, hm, hkp, hb, F⟩ := C.ex
  exact pe_call F (hr.mono hk) hg hm hkp hb .nil hx ha hdb he hpl
theorem pe_cal (C : Cal X.prog X.w X.K X.mg X.base CX0 x k ps sp) (hr : Room j X.A) (ha : PA X (e :: es) t) (hk : k ≤ j := by decide) (hg : Gl X x := by rfl)
    (hdb : (x == ("__debug__" : Str)) = false := by decide) (he : starEach (e :: es) X.env = (false, eval e X.env) :: starEach es X.env := by rfl)
    (hpl : (backTo pos (starEach es X.env)).any (·.1) = false := by rfl) : PE X (.Call (.Name x p) (e :: es) [] pos) (tCall sp [] E0 t) :=
  pe_calE C hr pass0 ha hk hg hdb he hpl
end
end One


/-! ### rules over texts as lists of codes -/
namespace One
open PySem PySem.Spec PyProof.Rows L2
section
variable {X : Cx}
theorem OpR.imp {f : Value → Value → Sem Value} {r r' : R2} (h : OpR X f r) (i : ∀ x y H Q, r' x y H Q → r x y H Q) : OpR X f r' := fun pins s σ H x y v u Q I rx ry q => h pins s σ H x y v u Q I rx ry (i _ _ _ _ q)
theorem CallR.imp {f : Value} {r r' : List V → Hp → VK → Prop} (h : CallR X f r) (i : ∀ xs H Q, r' xs H Q → r xs H Q) : CallR X f r' := fun pins s σ H xs us Q I r q => h pins s σ H xs us Q I r (i _ _ _ q)
theorem MtR.imp {id : String} {r r' : V → List V → Hp → VK → Prop} (h : MtR X id r) (i : ∀ x xs H Q, r' x xs H Q → r x xs H Q) : MtR X id r' := fun pins s σ H x xs v us Q I rx rs q => h pins s σ H x xs v us Q I rx rs (i _ _ _ _ q)
theorem SlR.imp {r r' : V → Option Int → Option Int → Hp → VK → Prop} (h : SlR X r) (i : ∀ x lo hi H Q, r' x lo hi H Q → r x lo hi H Q) : SlR X r' := fun pins s σ H x v vl vu lo hi sl Q I rx hs pl pu q => h pins s σ H x v vl vu lo hi sl Q I rx hs pl pu (i _ _ _ _ _ q)
theorem IxR.imp {r r' : R2} (h : IxR X r) (i : ∀ x y H Q, r' x y H Q → r x y H Q) : IxR X r' := fun value slice pins s σ H x y v u Q I rx ry q e => h value slice pins s σ H x y v u Q I rx ry (i _ _ _ _ q) e
theorem pe_w {x : Str} {j : Nat} {pos : Pos} (a : Wd) (h : x = S a) : PE X (.Constant (.str x) j pos) (tC (sv a)) := h ▸ pe_str
/-- None or a text -/
def optv : Option Wd → V
  | none => .non
  | some a => sv a
theorem optv_inj {a b : Option Wd} : optv a = optv b ↔ a = b := by
  cases a <;> cases b <;> simp [optv, S_inj]
theorem scal_optv (a b : Option Wd) : scal (optv a) (optv b) = true := by cases a <;> cases b <;> rfl
theorem dec_optv (a b : Option Wd) : decide (optv a = optv b) = decide (a = b) := by
  by_cases h : a = b
  · subst h; simp
  · rw [decide_eq_false h, decide_eq_false fun z => h (optv_inj.mp z)]
theorem dec_int' (i j : Int) : decide (V.int i = V.int j) = decide (i = j) := by simp
def rAddW : R2 := fun x y H Q => ∃ a b : Wd, x = sv a ∧ y = sv b ∧ a.length + b.length ≤ 100000 ∧ Q (sv (a ++ b)) H
theorem op_addw : OpR X (binaryOp .Add) rAddW := OpR.imp op_add_str fun x y H Q ⟨a, b, hx, hy, hz, q⟩ => ⟨S a, S b, hx, hy, by rw [S_len, S_len]; exact sz hz, by rw [S_app]; exact q⟩
def rEqW : R2 := fun x y H Q => ∃ a b : Wd, x = sv a ∧ y = sv b ∧ Q (.bl (decide (a = b))) H
def rNeW : R2 := fun x y H Q => ∃ a b : Wd, x = sv a ∧ y = sv b ∧ Q (.bl (!decide (a = b))) H
theorem op_eqw : OpR X (compareOp .Eq) rEqW := OpR.imp op_eq fun x y H Q ⟨a, b, hx, hy, q⟩ => ⟨by rw [hx, hy]; rfl, by rw [hx, hy, dec_sv]; exact q⟩
theorem op_new : OpR X (compareOp .NotEq) rNeW := OpR.imp op_ne fun x y H Q ⟨a, b, hx, hy, q⟩ => ⟨by rw [hx, hy]; rfl, by rw [hx, hy, dec_sv]; exact q⟩
def rEqO : R2 := fun x y H Q => ∃ a b : Option Wd, x = optv a ∧ y = optv b ∧ Q (.bl (decide (a = b))) H
def rNeO : R2 := fun x y H Q => ∃ a b : Option Wd, x = optv a ∧ y = optv b ∧ Q (.bl (!decide (a = b))) H
theorem op_eqo : OpR X (compareOp .Eq) rEqO := OpR.imp op_eq fun x y H Q ⟨a, b, hx, hy, q⟩ => ⟨by rw [hx, hy]; exact scal_optv a b, by rw [hx, hy, dec_optv]; exact q⟩
theorem op_neo : OpR X (compareOp .NotEq) rNeO := OpR.imp op_ne fun x y H Q ⟨a, b, hx, hy, q⟩ => ⟨by rw [hx, hy]; exact scal_optv a b, by rw [hx, hy, dec_optv]; exact q⟩
def rEqN : R2 := fun x y H Q => ∃ i j : Int, x = .int i ∧ y = .int j ∧ Q (.bl (decide (i = j))) H
def rNeN : R2 := fun x y H Q => ∃ i j : Int, x = .int i ∧ y = .int j ∧ Q (.bl (!decide (i = j))) H
theorem op_eqn : OpR X (compareOp .Eq) rEqN := OpR.imp op_eq fun x y H Q ⟨a, b, hx, hy, q⟩ => ⟨by rw [hx, hy]; rfl, by rw [hx, hy, dec_int']; exact q⟩
theorem op_nen : OpR X (compareOp .NotEq) rNeN := OpR.imp op_ne fun x y H Q ⟨a, b, hx, hy, q⟩ => ⟨by rw [hx, hy]; rfl, by rw [hx, hy, dec_int']; exact q⟩
/-- len of a text, of a list -/
def rLenW : List V → Hp → VK → Prop := fun xs H Q => ∃ a : Wd, xs = [sv a] ∧ a.length ≤ 100000 ∧ Q (.int (a.length : Int)) H
theorem call_lenw : CallR X (.builtin "len") rLenW := CallR.imp call_len_str fun xs H Q ⟨a, e, hz, q⟩ => ⟨S a, e, szS hz, by rw [S_len]; exact q⟩
def rLenL (K : PySem.W.Frag) : List V → Hp → VK → Prop := fun xs H Q => ∃ p, xs = [.ref p] ∧ ∃ ys, SqL K H p ys ∧ Q (.int (ys.length : Int)) H
theorem call_lenl : CallR X (.builtin "len") (rLenL X.K) := CallR.imp call_len_seq fun xs H Q ⟨p, e, ys, h, q⟩ => ⟨p, ys, e, .inl h, q⟩
def rLenT (K : PySem.W.Frag) : List V → Hp → VK → Prop := fun xs H Q => ∃ p, xs = [.ref p] ∧ ∃ ys, SqT K H p ys ∧ Q (.int (ys.length : Int)) H
theorem call_lent : CallR X (.builtin "len") (rLenT X.K) := CallR.imp call_len_seq fun xs H Q ⟨p, e, ys, h, q⟩ => ⟨p, ys, e, .inr h, q⟩
/-- a text's slice -/
def cutW (a : Wd) (lo hi : Option Int) : Wd := (a.drop (HT.sIx a.length 0 lo)).take (HT.sIx a.length a.length hi - HT.sIx a.length 0 lo)
def rSlW : V → Option Int → Option Int → Hp → VK → Prop := fun x lo hi H Q => ∃ a : Wd, x = sv a ∧ a.length ≤ 100000 ∧ Q (sv (cutW a lo hi)) H
theorem sl_w : SlR X rSlW := SlR.imp sl_str fun x lo hi H Q ⟨a, e, hz, q⟩ => ⟨S a, e, szS hz, by rw [cutS_S]; exact q⟩
theorem cutW_from (a : Wd) (k : Nat) : cutW a (some (k : Int)) none = a.drop k := S_inj.mp ((cutS_S a _ _).symm.trans (cut_from a k))
theorem cutW_to (a : Wd) (k : Nat) : cutW a none (some (k : Int)) = a.take k := S_inj.mp ((cutS_S a _ _).symm.trans (cut_to a k))
theorem cutW_mid (a : Wd) (i k : Nat) : cutW a (some (i : Int)) (some ((i : Int) + (k : Int))) = (a.drop i).take k := S_inj.mp ((cutS_S a _ _).symm.trans (cut_mid a i k))
theorem cutW_len (a : Wd) (lo hi : Option Int) : (cutW a lo hi).length ≤ a.length := by
  unfold cutW
  rw [List.length_take, List.length_drop]; omega
/-- a text's sign, a list's item, a tuple's item -/
def rIxW : R2 := fun x y H Q => ∃ (a : Wd) (i : Int), x = sv a ∧ y = .int i ∧ a.length ≤ 100000 ∧ 0 ≤ i ∧ ∃ c, a[i.toNat]? = some c ∧ Q (sv [c]) H
theorem atI_toNat {α : Type} {xs : List α} {i : Int} {v : α} (h0 : 0 ≤ i) (h : xs[i.toNat]? = some v) : atI xs i = some v := by
  have := atI_nat (j := i.toNat) h
  rwa [Int.toNat_of_nonneg h0] at this
theorem ix_w : IxR X rIxW := IxR.imp ix_str fun x y H Q ⟨a, i, hx, hy, hz, h0, c, hc, q⟩ => ⟨S a, i, c, hx, hy, szS hz, by rw [S_cps]; exact atI_toNat h0 hc, q⟩
def rIxLn (K : PySem.W.Frag) : R2 := fun x y H Q => ∃ (p : Addr) (i : Int), x = .ref p ∧ y = .int i ∧ ∃ xs, SqL K H p xs ∧ 0 ≤ i ∧ ∃ v, xs[i.toNat]? = some v ∧ Q v H
theorem ix_l : IxR X (rIxLn X.K) := IxR.imp ix_list fun x y H Q ⟨p, i, hx, hy, xs, h, h0, v, hv, q⟩ => ⟨p, xs, i, v, hx, hy, h, atI_toNat h0 hv, q⟩
def rIxTn (K : PySem.W.Frag) : R2 := fun x y H Q => ∃ (p : Addr) (i : Int), x = .ref p ∧ y = .int i ∧ ∃ xs, SqT K H p xs ∧ 0 ≤ i ∧ ∃ v, xs[i.toNat]? = some v ∧ Q v H
theorem ix_t : IxR X (rIxTn X.K) := IxR.imp ix_tup fun x y H Q ⟨p, i, hx, hy, xs, h, h0, v, hv, q⟩ => ⟨p, xs, i, v, hx, hy, h, atI_toNat h0 hv, q⟩
/-- text.startswith(other), sep.join(list of texts) -/
def rStW : V → List V → Hp → VK → Prop := fun x xs H Q => ∃ a b : Wd, x = sv a ∧ xs = [sv b] ∧ Q (.bl (b.isPrefixOf a)) H
theorem mt_stw : MtR X "str.startswith" rStW := MtR.imp mt_startswith fun x xs H Q ⟨a, b, hx, hy, q⟩ => ⟨S a, S b, hx, hy, by rw [starts_S]; exact q⟩
theorem map_sv_len (ys : List Wd) : ((ys.map S).map (·.length)).sum = ys.flatten.length := by
  induction ys with
  | nil => rfl
  | cons x r ih => simp only [List.map_cons, List.sum_cons, List.flatten_cons, List.length_append, ih, S_len]
theorem map_sv (ys : List Wd) : (ys.map S).map V.str = ys.map sv := by rw [List.map_map]; rfl
def rJoW (K : PySem.W.Frag) : V → List V → Hp → VK → Prop := fun x xs H Q => ∃ p, x = sv [] ∧ xs = [.ref p] ∧ ∃ ys : List Wd, SqL K H p (ys.map sv) ∧ ys.flatten.length ≤ 100000 ∧ Q (sv ys.flatten) H
theorem mt_jow : MtR X "str.join" (rJoW X.K) := MtR.imp mt_join fun x xs H Q ⟨p, hx, hy, ys, h, hz, q⟩ => ⟨S [], p, ys.map S, hx, hy, .inl (by rw [map_sv]; exact h), by rw [map_sv_len, S_len]; show ys.flatten.length + _ * 0 ≤ _; omega, by rw [join_S]; exact q⟩
/-- a text in a list of texts -/
def rInW (K : PySem.W.Frag) (neg : Bool) : R2 := fun x y H Q => ∃ (a : Wd) (p : Addr), x = sv a ∧ y = .ref p ∧ ∃ xs : List Wd, SqL K H p (xs.map sv) ∧ Q (.bl (if neg then !decide (a ∈ xs) else decide (a ∈ xs))) H
theorem inV_sv (a : Wd) (xs : List Wd) : inV (sv a) (xs.map sv) = decide (a ∈ xs) := by
  unfold inV
  rw [List.any_map, Bool.eq_iff_iff, List.any_eq_true, decide_eq_true_iff]
  constructor
  · rintro ⟨x, hx, e⟩
    have e2 : (S x == S a) = true := e
    have e3 : S x = S a := by simpa using e2
    rw [← S_inj.mp e3]; exact hx
  · intro h
    exact ⟨a, h, by show (S a == S a) = true; simp⟩
theorem flat_sv (xs : List Wd) : (xs.map sv).all flatV = true := by
  rw [List.all_eq_true]
  intro v hv
  obtain ⟨a, _, rfl⟩ := List.mem_map.mp hv
  rfl
theorem op_inw : OpR X (compareOp .In) (rInW X.K false) := OpR.imp op_in_seq fun x y H Q ⟨a, p, hx, hy, xs, h, q⟩ => ⟨p, xs.map sv, hy, .inl h, by rw [hx]; rfl, flat_sv xs, by rw [hx, inV_sv]; exact q⟩
theorem op_niw : OpR X (compareOp .NotIn) (rInW X.K true) := OpR.imp op_notIn_seq fun x y H Q ⟨a, p, hx, hy, xs, h, q⟩ => ⟨p, xs.map sv, hy, .inl h, by rw [hx]; rfl, flat_sv xs, by rw [hx, inV_sv]; exact q⟩
/-- one sign in a text -/
def rInG (neg : Bool) : R2 := fun x y H Q => ∃ (c : Nat) (a : Wd), x = sv [c] ∧ y = sv a ∧ Q (.bl (if neg then !decide (c ∈ a) else decide (c ∈ a))) H
theorem op_ing : OpR X (compareOp .In) (rInG false) := OpR.imp op_in_sign fun x y H Q ⟨c, a, hx, hy, q⟩ => ⟨c, S a, hx, hy, by rw [S_cps]; exact q⟩
theorem op_nig : OpR X (compareOp .NotIn) (rInG true) := OpR.imp op_notIn_sign fun x y H Q ⟨c, a, hx, hy, q⟩ => ⟨c, S a, hx, hy, by rw [S_cps]; exact q⟩
end

/-! ### answers -/
/-- a value, the heap has grown at most; a new list; a new tuple -/
def Ret (H : Hp) (Q : VK) (v : V) : Prop := ∀ H', Same H H' → Q v H'
def RetL (H : Hp) (Q : VK) (xs : List V) : Prop := ∀ p H', Same H H' → H p = none → H' p = some (.lst xs) → Q (.ref p) H'
def RetT (H : Hp) (Q : VK) (xs : List V) : Prop := ∀ p H', Same H H' → H p = none → H' p = some (.tup xs) → Q (.ref p) H'
theorem Ret.mono {H H1 : Hp} {Q : VK} {v : V} (e : Same H H1) (r : Ret H Q v) : Ret H1 Q v := fun H' e' => r H' (e.trans e')
theorem RetL.mono {H H1 : Hp} {Q : VK} {xs : List V} (e : Same H H1) (r : RetL H Q xs) : RetL H1 Q xs := fun p H' e' hp h => r p H' (e.trans e') (e.free hp) h
theorem RetT.mono {H H1 : Hp} {Q : VK} {xs : List V} (e : Same H H1) (r : RetT H Q xs) : RetT H1 Q xs := fun p H' e' hp h => r p H' (e.trans e') (e.free hp) h
theorem RetT.at {H H1 : Hp} {Q : VK} {xs : List V} (r : RetT H Q xs) (e : Same H H1) {p : Addr} (hp : H1 p = none) : Q (.ref p) (upd H1 p (.tup xs)) := r p _ (e.trans (new hp)) (e.free hp) upd_same
theorem RetL.at {H H1 : Hp} {Q : VK} {xs : List V} (r : RetL H Q xs) (e : Same H H1) {p : Addr} (hp : H1 p = none) : Q (.ref p) (upd H1 p (.lst xs)) := r p _ (e.trans (new hp)) (e.free hp) upd_same
/-! ### ways -/
theorem itd {p A B : Prop} [Decidable p] (h1 : p → A) (h2 : ¬ p → B) : if decide p = true then A else B := by
  by_cases h : p
  · rw [if_pos (decide_eq_true h)]; exact h1 h
  · rw [if_neg (by simpa using h)]; exact h2 h
theorem itn {p A B : Prop} [Decidable p] (h1 : ¬ p → A) (h2 : p → B) : if (!decide p) = true then A else B := by
  by_cases h : p
  · rw [if_neg (by simpa using h)]; exact h2 h
  · rw [if_pos (by simpa using h)]; exact h1 h
theorem itb {b : Bool} {A B : Prop} (h1 : b = true → A) (h2 : b = false → B) : if b = true then A else B := by
  cases b
  · exact h2 rfl
  · exact h1 rfl
theorem itnb {b : Bool} {A B : Prop} (h1 : b = false → A) (h2 : b = true → B) : if (!b) = true then A else B := by
  cases b
  · exact h1 rfl
  · exact h2 rfl

/-! ### loops -/
section
variable {K : PySem.W.Frag} {a : Addr} {g : TG} {tb : TS} {D : Ends} {σ : L2.St} {H : Hp}
/-- over a list of texts that stays: Pv by what was taken -/
theorem for_ws {xs : List Wd} {j : Nat} (hS : SqL K H a (xs.map sv)) (Pv : List Wd → L2.St → Hp → Prop) (h0 : Pv [] σ H) (hm : ∀ pre σ' H', Pv pre σ' H' → Same H H')
    (hs : ∀ pre x post σ' H', xs = pre ++ x :: post → Pv pre σ' H' → tb { D with nx := Pv (pre ++ [x]), ct := Pv (pre ++ [x]), bk := D.nx } (σ'.set j (some (sv x))) H') (hd : ∀ σ' H', Pv xs σ' H' → D.nx σ' H') :
    ∃ W : Nat → Nat → L2.St → Hp → Prop, (∃ m, W 0 m σ H) ∧ ∀ i m σ H, W i m σ H →
      ((Itl K a).stop i H ∧ D.nx σ H) ∨ ((Itl K a).go i H ∧ ∃ N : L2.St → Hp → Prop, (∀ σ' H', N σ' H' → ∃ m', m' < m ∧ W (i + 1) m' σ' H') ∧ ∀ x H', (Itl K a).yld i H x H' → gName j x σ H' fun σ2 H2 => tb { D with nx := N, ct := N, bk := D.nx } σ2 H2) := by
  refine for_list (xs := xs.map sv) (fun i σ' H' => Pv (xs.take i) σ' H') (by rw [List.take_zero]; exact h0) (fun i σ' H' _ p => (hm _ _ _ p).seq hS) (fun i x σ' H' hx p => ?_) (fun σ' H' p => hd σ' H' (by rw [List.length_map, List.take_length] at p; exact p))
  rw [List.getElem?_map] at hx
  cases e : xs[i]? with
  | none => rw [e] at hx; cases hx
  | some y =>
    rw [e] at hx
    obtain rfl : sv y = x := Option.some.inj hx
    have hi : i < xs.length := (List.getElem?_eq_some_iff.mp e).1
    have ey : xs[i] = y := (List.getElem?_eq_some_iff.mp e).2
    have e1 : xs = xs.take i ++ y :: xs.drop (i + 1) := by
      rw [← ey, List.getElem_cons_drop, List.take_append_drop]
    have e2 : xs.take (i + 1) = xs.take i ++ [y] := by rw [List.take_add_one, e]; rfl
    show tb { D with nx := fun σ' H' => Pv (xs.take (i + 1)) σ' H', ct := fun σ' H' => Pv (xs.take (i + 1)) σ' H', bk := D.nx } (σ'.set j (some (sv y))) H'
    rw [e2]
    exact hs _ y _ σ' H' e1 p
end
/-! ### comprehensions whose element makes no object that is kept -/
/-- te gives v from any heap that has grown from H -/
def EvV (te : TE) (σ : L2.St) (H : Hp) (v : V) : Prop := ∀ H1, Same H H1 → ∀ Q : VK, (∀ H2, Same H1 H2 → Q v H2) → te σ H1 Q
def EvB (tt : TT) (σ : L2.St) (H : Hp) (b : Bool) : Prop := ∀ H1, Same H H1 → ∀ Q : Bool → Hp → Prop, (∀ H2, Same H1 H2 → Q b H2) → tt σ H1 Q
section
variable {K : PySem.W.Frag} {a : Addr} {tt : TT} {te : TE} {σ : L2.St} {H1 : Hp} {D : Addr} {Qd : Hp → Prop}
theorem wipe1 (σ : L2.St) (j : Nat) (v : Option V) : wipe ((wipe σ [j]).set j v) [j] = wipe σ [j] := by
  show ((σ.set j none).set j v).set j none = σ.set j none
  rw [List.set_set, List.set_set]
/-- over a list of values that stays -/
theorem lc_vals {xs : List V} {j : Nat} (c : V → Bool) (y : V → V) (hD : H1 D = none) (hS : SqL K H1 a xs) (hz : xs.length ≤ 100000)
    (ht : ∀ x ∈ xs, EvB tt ((wipe σ [j]).set j (some x)) H1 (c x)) (he : ∀ x ∈ xs, c x = true → EvV te ((wipe σ [j]).set j (some x)) H1 (y x))
    (hd : ∀ H', Same H1 H' → H' D = some (.lst ((xs.filter c).map y)) → Qd H') :
    ∃ W : Nat → Nat → Hp → Prop, (∃ m, W 0 m (upd H1 D (.lst []))) ∧ ∀ i m H, W i m H →
      ((Itl K a).stop i H ∧ Qd H) ∨ ((Itl K a).go i H ∧ ∃ Nx : Hp → Prop, (∀ H', Nx H' → ∃ m', m' < m ∧ W (i + 1) m' H') ∧ ∀ x H', (Itl K a).yld i H x H' → gName j x (wipe σ [j]) H' fun σ2 H2 => wipe σ2 [j] = wipe σ [j] ∧ tt σ2 H2 fun b H3 =>
        if b = true then te σ2 H3 fun y H4 => ∃ acc, H4 D = some (.lst acc) ∧ acc.length < sizeLine ∧ Nx (upd H4 D (.lst (acc ++ [y]))) else Nx H3) := by
  refine lc_list (K := K) (a := a) (xs := xs) (fun i H => Same H1 H ∧ H D = some (.lst (((xs.take i).filter c).map y))) ⟨new hD, upd_same⟩ (fun i H _ p => p.1.seq hS) (fun i x H hx p => ?_) (fun H p => hd H p.1 (by rw [List.take_length] at p; exact p.2))
  have hm : x ∈ xs := List.mem_of_getElem? hx
  have e2 : xs.take (i + 1) = xs.take i ++ [x] := by rw [List.take_add_one, hx]; rfl
  refine ⟨wipe1 σ j _, ht x hm H p.1 _ fun H2 s2 => ?_⟩
  refine itb (fun hc => ?_) fun hc => ?_
  · refine he x hm hc H2 (p.1.trans s2) _ fun H3 s3 => ⟨_, s3 _ _ (s2 _ _ p.2), ?_, mutd ((p.1.trans s2).trans s3) hD, ?_⟩
    · refine szl ?_
      rw [List.length_map]
      have h1 := List.length_filter_le c (xs.take i)
      have h2 : i < xs.length := (List.getElem?_eq_some_iff.mp hx).1
      rw [List.length_take] at h1
      omega
    · rw [upd_same, e2, List.filter_append, List.map_append, List.filter_cons, if_pos hc]; rfl
  · refine ⟨p.1.trans s2, ?_⟩
    rw [s2 _ _ p.2, e2, List.filter_append, List.filter_cons, if_neg (by rw [hc]; decide)]
    simp
/-- over a range, no test -/
theorem lc_rng {lo : Int} {n j : Nat} (y : Nat → V) (hD : H1 D = none) (hz : n ≤ 100000)
    (he : ∀ i, i < n → EvV te ((wipe σ [j]).set j (some (.int (lo + (i : Nat))))) H1 (y i))
    (hd : ∀ H', Same H1 H' → H' D = some (.lst ((List.range n).map y)) → Qd H') :
    ∃ W : Nat → Nat → Hp → Prop, (∃ m, W 0 m (upd H1 D (.lst []))) ∧ ∀ i m H, W i m H →
      ((Itr lo n).stop i H ∧ Qd H) ∨ ((Itr lo n).go i H ∧ ∃ Nx : Hp → Prop, (∀ H', Nx H' → ∃ m', m' < m ∧ W (i + 1) m' H') ∧ ∀ x H', (Itr lo n).yld i H x H' → gName j x (wipe σ [j]) H' fun σ2 H2 => wipe σ2 [j] = wipe σ [j] ∧ tYes σ2 H2 fun b H3 =>
        if b = true then te σ2 H3 fun y H4 => ∃ acc, H4 D = some (.lst acc) ∧ acc.length < sizeLine ∧ Nx (upd H4 D (.lst (acc ++ [y]))) else Nx H3) := by
  refine lc_range (lo := lo) (n := n) (fun i H => Same H1 H ∧ H D = some (.lst ((List.range i).map y))) ⟨new hD, upd_same⟩ (fun i H hi p => ?_) (fun H p => hd H p.1 p.2)
  refine ⟨wipe1 σ j _, ?_⟩
  refine he i hi H p.1 _ fun H3 s3 => ⟨_, s3 _ _ p.2, ?_, mutd (p.1.trans s3) hD, ?_⟩
  · refine szl ?_
    rw [List.length_map, List.length_range]; omega
  · rw [upd_same, List.range_succ, List.map_append]; rfl
end
end One


/-! ### isinstance of what a value is -/
namespace One
open PySem PySem.Spec PyProof.Rows L2
inductive Ty where | non | bl | int | str | lst | tup | dict
def Ty.nm : Ty → String
  | .non => "NoneType" | .bl => "bool" | .int => "int" | .str => "str" | .lst => "list" | .tup => "tuple" | .dict => "dict"
def Ty.is : Ty → Ty → Bool
  | .bl, .int => true
  | .non, .non => true | .bl, .bl => true | .int, .int => true | .str, .str => true | .lst, .lst => true | .tup, .tup => true | .dict, .dict => true
  | _, _ => false
theorem kit_all : ∀ t n : Ty, kitB t.nm n.nm = some (t.is n)
  | .non, .non => by decide +kernel | .non, .bl => by decide +kernel | .non, .int => by decide +kernel | .non, .str => by decide +kernel | .non, .lst => by decide +kernel | .non, .tup => by decide +kernel | .non, .dict => by decide +kernel
  | .bl, .non => by decide +kernel | .bl, .bl => by decide +kernel | .bl, .int => by decide +kernel | .bl, .str => by decide +kernel | .bl, .lst => by decide +kernel | .bl, .tup => by decide +kernel | .bl, .dict => by decide +kernel
  | .int, .non => by decide +kernel | .int, .bl => by decide +kernel | .int, .int => by decide +kernel | .int, .str => by decide +kernel | .int, .lst => by decide +kernel | .int, .tup => by decide +kernel | .int, .dict => by decide +kernel
  | .str, .non => by decide +kernel | .str, .bl => by decide +kernel | .str, .int => by decide +kernel | .str, .str => by decide +kernel | .str, .lst => by decide +kernel | .str, .tup => by decide +kernel | .str, .dict => by decide +kernel
  | .lst, .non => by decide +kernel | .lst, .bl => by decide +kernel | .lst, .int => by decide +kernel | .lst, .str => by decide +kernel | .lst, .lst => by decide +kernel | .lst, .tup => by decide +kernel | .lst, .dict => by decide +kernel
  | .tup, .non => by decide +kernel | .tup, .bl => by decide +kernel | .tup, .int => by decide +kernel | .tup, .str => by decide +kernel | .tup, .lst => by decide +kernel | .tup, .tup => by decide +kernel | .tup, .dict => by decide +kernel
  | .dict, .non => by decide +kernel | .dict, .bl => by decide +kernel | .dict, .int => by decide +kernel | .dict, .str => by decide +kernel | .dict, .lst => by decide +kernel | .dict, .tup => by decide +kernel | .dict, .dict => by decide +kernel
inductive TyW (H : Hp) : V → Ty → Prop where
  | non : TyW H .non .non
  | bl (b : Bool) : TyW H (.bl b) .bl
  | int (i : Int) : TyW H (.int i) .int
  | str (x : Str) : TyW H (.str x) .str
  | lst {p : Addr} {xs : List V} (h : H p = some (.lst xs)) : TyW H (.ref p) .lst
  | tup {p : Addr} {xs : List V} (h : H p = some (.tup xs)) : TyW H (.ref p) .tup
  | dict {p : Addr} {kvs : List (Key × V)} (h : H p = some (.dK kvs)) : TyW H (.ref p) .dict
theorem TyW.of {K : PySem.W.Frag} {H : Hp} {x : V} {t : Ty} (h : TyW H x t) : TyX K H x (.type t.nm) := by
  cases h with
  | non => exact .base .non
  | bl b => exact .base (.bl b)
  | int i => exact .base (.int i)
  | str x => exact .base (.str x)
  | lst h => exact .base (.lst h)
  | tup h => exact .base (.tup h)
  | dict h => exact .base (.dK h)
def rIs (n : Ty) : List V → Hp → VK → Prop := fun xs H Q => ∃ x, xs = [x, .ty n.nm] ∧ ∃ t, TyW H x t ∧ Q (.bl (t.is n)) H
theorem call_is {X : Cx} (n : Ty) : CallR X (.builtin "isinstance") (rIs n) := CallR.imp call_isi fun xs H Q ⟨x, e, t, h, q⟩ => ⟨x, .ty n.nm, .type t.nm, .type n.nm, t.is n, e, .ty _, h.of, kit_ty (kit_all t n), q⟩
theorem pe_ty {X : Cx} {x : Str} {pos : Pos} (n : Ty) (hg : Gl X x) (hm : X.mg x = none) (hv : bootBuiltins x = some (.type n.nm)) (hn : x ≠ "__name__" := by decide) (hd : (x == ("__debug__" : Str)) = false := by decide) : PE X (.Name x pos) (tC (.ty n.nm)) := pe_bltn hg hm hv rfl hn hd
theorem pick {α : Type} {xs : List α} {i : Int} (h0 : 0 ≤ i) (h1 : i < xs.length) : ∃ v, v ∈ xs ∧ xs[i.toNat]? = some v := by
  have h : i.toNat < xs.length := by omega
  exact ⟨xs[i.toNat], List.getElem_mem h, List.getElem?_eq_getElem h⟩
theorem flat1 {α β : Type} (f : α → β) (xs : List α) : (xs.map fun i => [f i]).flatten = xs.map f := by
  induction xs with
  | nil => rfl
  | cons x r ih => simp only [List.map_cons, List.flatten_cons, ih]; rfl
theorem cutW_toI (a : Wd) {x : Int} (h : 0 ≤ x) : cutW a none (some x) = a.take x.toNat := by
  have := cutW_to a x.toNat
  rwa [Int.toNat_of_nonneg h] at this
theorem cutW_fromI (a : Wd) {x : Int} (h : 0 ≤ x) : cutW a (some x) none = a.drop x.toNat := by
  have := cutW_from a x.toNat
  rwa [Int.toNat_of_nonneg h] at this
theorem cut_two (a : Wd) {x : Int} (h : 0 ≤ x) : (cutW a none (some x)).length + (cutW a (some (x + 1)) none).length ≤ a.length := by
  rw [cutW_toI a h, cutW_fromI a (by omega), List.length_take, List.length_drop]
  omega
def ABC : Wd := [97, 98, 99, 100, 101, 102, 103, 104, 105, 106, 107, 108, 109, 110, 111, 112, 113, 114, 115, 116, 117, 118, 119, 120, 121, 122]
theorem pe_globw {X : Cx} {x : Str} {z : Str} {pos : Pos} (a : Wd) (h : z = S a) (hm : ∃ t, X.mg x = some (.str z t)) (hg : Gl X x) (hd : (x == ("__debug__" : Str)) = false := by decide) : PE X (.Name x pos) (tC (sv a)) := by
  obtain ⟨t, hm⟩ := hm
  exact pe_glob hg hm ⟨t, by rw [h]⟩ hd
theorem pe_globi {X : Cx} {x : Str} {i : Int} {pos : Pos} (hm : ∃ t, X.mg x = some (.int i t)) (hg : Gl X x) (hd : (x == ("__debug__" : Str)) = false := by decide) : PE X (.Name x pos) (tC (.int i)) := by
  obtain ⟨t, hm⟩ := hm
  exact pe_glob hg hm ⟨t, rfl⟩ hd
end One
namespace One
open PySem PySem.Spec PyProof.Rows L2
section
variable {K : PySem.W.Frag} {a : Addr} {g : TG} {tb : TS} {D : Ends} {σ : L2.St} {H : Hp}
/-- over a list that stays, nothing that stood is changed: Pv by the turn and the slots -/
theorem for_g {xs : List V} (hS : SqL K H a xs) (Pv : Nat → L2.St → Prop) (h0 : Pv 0 σ)
    (hs : ∀ i x σ' H', xs[i]? = some x → Pv i σ' → Same H H' → g x σ' H' fun σ2 H2 => tb { D with nx := fun σ'' H'' => Pv (i + 1) σ'' ∧ Same H H'', ct := fun σ'' H'' => Pv (i + 1) σ'' ∧ Same H H'', bk := D.nx } σ2 H2)
    (hd : ∀ σ' H', Pv xs.length σ' → Same H H' → D.nx σ' H') :
    ∃ W : Nat → Nat → L2.St → Hp → Prop, (∃ m, W 0 m σ H) ∧ ∀ i m σ H, W i m σ H →
      ((Itl K a).stop i H ∧ D.nx σ H) ∨ ((Itl K a).go i H ∧ ∃ N : L2.St → Hp → Prop, (∀ σ' H', N σ' H' → ∃ m', m' < m ∧ W (i + 1) m' σ' H') ∧ ∀ x H', (Itl K a).yld i H x H' → g x σ H' fun σ2 H2 => tb { D with nx := N, ct := N, bk := D.nx } σ2 H2) :=
  for_list (xs := xs) (fun i σ' H' => Pv i σ' ∧ Same H H') ⟨h0, Same.refl _⟩ (fun _ _ _ _ p => p.2.seq hS) (fun i x σ' H' hx p => hs i x σ' H' hx p.1 p.2) (fun σ' H' p => hd σ' H' p.1 p.2)
end
end One
namespace One
open PySem PySem.Spec PyProof.Rows L2
theorem new_at {H : Hp} {p b : Addr} {o u : HO} (h : H p = none) (e : H b = some u) : upd H p o b = some u := new h b u e
theorem upd_at {H : Hp} {p b : Addr} {o u : HO} (h : b ≠ p) (e : H b = some u) : upd H p o b = some u := by rw [upd_ne h]; exact e
theorem upd_snoc {H : Hp} {p : Addr} {xs : List Wd} {a : Wd} : upd H p (.lst (xs.map sv ++ [sv a])) p = some (.lst ((xs ++ [a]).map sv)) := by rw [upd_same, List.map_append]; rfl
theorem upd_nil {H : Hp} {p : Addr} : upd H p (.lst []) p = some (.lst (List.map sv [])) := upd_same
/-- something lives at l, nothing at p -/
theorem ne_free {H : Hp} {p l : Addr} {u : HO} (h : H p = none) (e : H l = some u) : p ≠ l := fun z => by rw [← z, h] at e; cases e
theorem same_at {H H' : Hp} {b : Addr} {u : HO} (s : Same H H') (e : H b = some u) : H' b = some u := s b u e
end One
namespace One
open PySem PySem.Spec PyProof.Rows L2
def rCatL : R2 := fun x y H Q => ∃ (l b : Addr), x = .ref l ∧ y = .ref b ∧ ∃ xs, H l = some (.lst xs) ∧ ∃ zs, H b = some (.lst zs) ∧ xs.length + zs.length ≤ 100000 ∧ ∀ p, H p = none → Q (.ref p) (upd H p (.lst (xs ++ zs)))
theorem op_catl {X : Cx} : OpR X (binaryOp .Add) rCatL := OpR.imp op_cat fun x y H Q ⟨l, b, hx, hy, xs, h1, zs, h2, hz, q⟩ => ⟨l, b, xs, zs, hx, hy, h1, h2, sz hz, q⟩
end One
namespace One
open PySem PySem.Spec PyProof.Rows L2
/-! ### == of data -/
def okD (d : PyData) : Bool := d.plain && decide (d.depth ≤ 8)
def rEqP (K : PySem.W.Frag) : R2 := fun x y H Q => ∃ d, Dp K H x d ∧ okD d = true ∧ ∃ e, Dp K H y e ∧ okD e = true ∧ Q (.bl (PyData.eqv d e)) H
def rNeP (K : PySem.W.Frag) : R2 := fun x y H Q => ∃ d, Dp K H x d ∧ okD d = true ∧ ∃ e, Dp K H y e ∧ okD e = true ∧ Q (.bl (!PyData.eqv d e)) H
theorem eqv_self {d : PyData} (h : okD d = true) : PyData.eqv d d = true := SeqAt.eqv_refl_plain d (Bool.and_eq_true_iff.mp h).1
example (x : Str) (b : Bool) : okD (.tuple [.str x, .bool b]) = true := rfl
example (x : Str) (b : Bool) : okD (.tuple [.str x, .bool b, .list []]) = true := by rfl
example (x y : Str) (b : Bool) : PyData.eqv (.tuple [.str x, .bool b]) (.tuple [.str y, .bool b]) = ((x == y) && ((b == b) && true)) := by rfl
theorem op_eqp {X : Cx} (hu : X.A.units + 64 < cLine) : OpR X (compareOp .Eq) (rEqP X.K) := by
  intro pins s σ H x y v u Q I rx ry h
  obtain ⟨d, hd, sd, e, he, se, q⟩ := h
  obtain ⟨as, r1⟩ := Dp.reads I d x v hd rx
  obtain ⟨bs, r2⟩ := Dp.reads I e y u he ry
  have h1 := Bool.and_eq_true_iff.mp sd
  have h2 := Bool.and_eq_true_iff.mp se
  have d1 := of_decide_eq_true h1.2
  exact SeqAt.eq_plain r1 r2 h1.1 h2.1 (by have := Nat.min_le_left d.depth e.depth; omega) ⟨.bl _, H, I, rfl, q⟩
theorem op_nep {X : Cx} (hu : X.A.units + 64 < cLine) : OpR X (compareOp .NotEq) (rNeP X.K) := by
  intro pins s σ H x y v u Q I rx ry h
  obtain ⟨d, hd, sd, e, he, se, q⟩ := h
  obtain ⟨as, r1⟩ := Dp.reads I d x v hd rx
  obtain ⟨bs, r2⟩ := Dp.reads I e y u he ry
  have h1 := Bool.and_eq_true_iff.mp sd
  have h2 := Bool.and_eq_true_iff.mp se
  have d1 := of_decide_eq_true h1.2
  exact SeqAt.ne_plain r1 r2 h1.1 h2.1 (by have := Nat.min_le_left d.depth e.depth; omega) ⟨.bl _, H, I, rfl, q⟩
abbrev sd (a : Wd) : PyData := .str (S a)
theorem eqvAll_strs : ∀ xs ys : List Wd, PyData.eqvAll (xs.map sd) (ys.map sd) = decide (xs = ys)
  | [], [] => rfl
  | [], _ :: _ => by simp [PyData.eqvAll]
  | _ :: _, [] => by simp [PyData.eqvAll]
  | x :: xs, y :: ys => by
    have e : (S x == S y) = decide (x = y) := by
      by_cases h : x = y
      · subst h; simp
      · rw [decide_eq_false h]; simpa using fun z => h (S_inj.mp z)
    simp only [List.map_cons, PyData.eqvAll, PyData.eqv, e, eqvAll_strs xs ys, List.cons.injEq, Bool.decide_and]
theorem eqv_strs (xs ys : List Wd) : PyData.eqv (.list (xs.map sd)) (.list (ys.map sd)) = decide (xs = ys) := by
  rw [← eqvAll_strs xs ys]; simp only [PyData.eqv]
theorem plain_strs : ∀ xs : List Wd, PyData.plainAll (xs.map sd) = true
  | [] => rfl
  | x :: r => by simp only [List.map_cons, PyData.plainAll, PyData.plain, plain_strs r, Bool.and_self]
theorem depth_strs : ∀ xs : List Wd, PyData.depthAll (xs.map sd) = 0
  | [] => rfl
  | x :: r => by simp only [List.map_cons, PyData.depthAll, PyData.depth, depth_strs r, Nat.max_self]
theorem ok_strs (xs : List Wd) : okD (.list (xs.map sd)) = true := by
  unfold okD
  simp only [PyData.plain, PyData.depth, plain_strs, depth_strs]
  decide
end One

namespace One
open PySem PySem.Spec PyProof.Rows L2
/-! ### lists: slices, the last item, append -/
def rSlLn (K : PySem.W.Frag) : V → Option Int → Option Int → Hp → VK → Prop := fun x lo hi H Q => ∃ a, x = .ref a ∧ ∃ xs, SqL K H a xs ∧ ∀ p, H p = none → Q (.ref p) (upd H p (.lst (cutV xs lo hi)))
theorem sl_l {X : Cx} : SlR X (rSlLn X.K) := SlR.imp sl_list fun x lo hi H Q ⟨a, e, xs, h, q⟩ => ⟨a, xs, e, h, q⟩
def rSlTn (K : PySem.W.Frag) : V → Option Int → Option Int → Hp → VK → Prop := fun x lo hi H Q => ∃ a, x = .ref a ∧ ∃ xs, SqT K H a xs ∧
  ¬ (HT.sIx xs.length 0 lo = 0 ∧ HT.sIx xs.length xs.length hi = xs.length) ∧ ∀ p, H p = none → Q (.ref p) (upd H p (.tup (cutV xs lo hi)))
theorem sl_t {X : Cx} : SlR X (rSlTn X.K) := SlR.imp sl_tup fun x lo hi H Q ⟨a, e, xs, h, n, q⟩ => ⟨a, xs, e, h, n, q⟩
theorem cutV_toI {xs : List V} {x : Int} (h : 0 ≤ x) : cutV xs none (some x) = xs.take x.toNat := by
  unfold cutV
  rw [HT.sIx_none, ← Int.toNat_of_nonneg h, HT.sIx_nat, List.drop_zero, Nat.sub_zero, Int.toNat_natCast]
  by_cases h2 : x.toNat ≤ xs.length
  · rw [Nat.min_eq_left h2]
  · rw [Nat.min_eq_right (by omega), List.take_of_length_le (Nat.le_refl _), List.take_of_length_le (by omega)]
theorem cutV_fromI {xs : List V} {x : Int} (h : 0 ≤ x) : cutV xs (some x) none = xs.drop x.toNat := by
  unfold cutV
  rw [HT.sIx_none, ← Int.toNat_of_nonneg h, HT.sIx_nat, Int.toNat_natCast]
  by_cases h2 : x.toNat ≤ xs.length
  · rw [Nat.min_eq_left h2, List.take_of_length_le]
    rw [List.length_drop]; exact Nat.le_refl _
  · rw [Nat.min_eq_right (by omega), List.drop_of_length_le (Nat.le_refl _), List.drop_of_length_le (by omega), List.take_nil]
def rIxLm (K : PySem.W.Frag) : R2 := fun x y H Q => ∃ p, x = .ref p ∧ y = .int (-1) ∧ ∃ xs, SqL K H p xs ∧ ∃ v, xs.getLast? = some v ∧ Q v H
theorem atI_m1 {xs : List V} {v : V} (h : xs.getLast? = some v) : atI xs (-1) = some v := by
  cases xs with
  | nil => simp at h
  | cons x r =>
    have e := List.dropLast_concat_getLast (List.cons_ne_nil x r)
    rw [← e]
    have : v = (x :: r).getLast (List.cons_ne_nil x r) := by
      rw [List.getLast?_eq_some_getLast (List.cons_ne_nil x r)] at h
      exact (Option.some.inj h).symm
    rw [this]
    exact atI_last _ _
theorem ix_lm {X : Cx} : IxR X (rIxLm X.K) := IxR.imp ix_list fun x y H Q ⟨p, hx, hy, xs, h, v, hv, q⟩ => ⟨p, xs, -1, v, hx, hy, h, atI_m1 hv, q⟩
def rApp : V → List V → Hp → VK → Prop := fun x vs H Q => ∃ l y, x = .ref l ∧ vs = [y] ∧ ∃ xs, H l = some (.lst xs) ∧ xs.length < 16000000 ∧ Q .non (upd H l (.lst (xs ++ [y])))
theorem MtM.imp {X : Cx} {id : String} {r r' : V → List V → Hp → VK → Prop} (h : MtM X id r) (i : ∀ x xs H Q, r' x xs H Q → r x xs H Q) : MtM X id r' := fun pins s σ H x xs v us Q I rx rs q => h pins s σ H x xs v us Q I rx rs (i _ _ _ _ q)
theorem mt_app {X : Cx} : MtM X "list.append" rApp := MtM.imp mt_append fun x vs H Q ⟨l, y, hx, hv, xs, h, hz, q⟩ => ⟨l, xs, y, hx, hv, h, Nat.lt_of_lt_of_le hz (by decide), q⟩
theorem tyL {K : PySem.W.Frag} {H : Hp} {p : Addr} {xs : List V} (h : SqL K H p xs) : tyV K "list" (.ref p) H := .inl ⟨rfl, _, h⟩
def rListOf (K : PySem.W.Frag) : List V → Hp → VK → Prop := fun xs H Q => ∃ p, xs = [.ref p] ∧ ∃ ys, SqL K H p ys ∧ ∀ l, H l = none → Q (.ref l) (upd H l (.lst ys))
theorem call_listl {X : Cx} : CallR X (.type "list") (rListOf X.K) := CallR.imp call_list_of fun xs H Q ⟨p, e, ys, h, q⟩ => ⟨p, ys, e, .inl h, q⟩
/-- [x, ..] * n -/
def rRepN : R2 := fun x y H Q => ∃ (l : Addr) (k : Int), x = .ref l ∧ y = .int k ∧ ∃ v, H l = some (.lst [v]) ∧ 0 ≤ k ∧ k ≤ 100000 ∧ ∀ p, H p = none → Q (.ref p) (upd H p (.lst (List.replicate k.toNat v)))
theorem op_repn {X : Cx} : OpR X (binaryOp .Mult) rRepN := OpR.imp op_rep fun x y H Q ⟨l, k, hx, hy, v, h, h0, h1, q⟩ => ⟨l, k, [v], hx, hy, h, by omega, by omega, sz (by show 1 * _ ≤ _; omega), by
  have e : (List.replicate k.toNat [v]).flatten = List.replicate k.toNat v := by
    generalize k.toNat = n
    induction n with
    | zero => rfl
    | succ n ih => rw [List.replicate_succ, List.flatten_cons, ih, List.replicate_succ]; rfl
  rw [e]; exact q⟩
section
variable {K : PySem.W.Frag} {a : Addr} {g : TG} {tb : TS} {D : Ends} {σ : L2.St} {H : Hp}
/-- over a list of texts that stays: Pv by what was taken -/
theorem for_wl {xs : List Wd} {j : Nat} (Pv : List Wd → L2.St → Hp → Prop) (h0 : Pv [] σ H) (hl : ∀ pre σ' H', Pv pre σ' H' → SqL K H' a (xs.map sv))
    (hs : ∀ pre x post σ' H', xs = pre ++ x :: post → Pv pre σ' H' → tb { D with nx := Pv (pre ++ [x]), ct := Pv (pre ++ [x]), bk := D.nx } (σ'.set j (some (sv x))) H') (hd : ∀ σ' H', Pv xs σ' H' → D.nx σ' H') :
    ∃ W : Nat → Nat → L2.St → Hp → Prop, (∃ m, W 0 m σ H) ∧ ∀ i m σ H, W i m σ H →
      ((Itl K a).stop i H ∧ D.nx σ H) ∨ ((Itl K a).go i H ∧ ∃ N : L2.St → Hp → Prop, (∀ σ' H', N σ' H' → ∃ m', m' < m ∧ W (i + 1) m' σ' H') ∧ ∀ x H', (Itl K a).yld i H x H' → gName j x σ H' fun σ2 H2 => tb { D with nx := N, ct := N, bk := D.nx } σ2 H2) := by
  refine for_list (xs := xs.map sv) (fun i σ' H' => Pv (xs.take i) σ' H') (by rw [List.take_zero]; exact h0) (fun i σ' H' _ p => hl _ _ _ p) (fun i x σ' H' hx p => ?_) (fun σ' H' p => hd σ' H' (by rw [List.length_map, List.take_length] at p; exact p))
  rw [List.getElem?_map] at hx
  cases e : xs[i]? with
  | none => rw [e] at hx; cases hx
  | some y =>
    rw [e] at hx
    obtain rfl : sv y = x := Option.some.inj hx
    have hi : i < xs.length := (List.getElem?_eq_some_iff.mp e).1
    have ey : xs[i] = y := (List.getElem?_eq_some_iff.mp e).2
    have e1 : xs = xs.take i ++ y :: xs.drop (i + 1) := by
      rw [← ey, List.getElem_cons_drop, List.take_append_drop]
    have e2 : xs.take (i + 1) = xs.take i ++ [y] := by rw [List.take_add_one, e]; rfl
    show tb { D with nx := fun σ' H' => Pv (xs.take (i + 1)) σ' H', ct := fun σ' H' => Pv (xs.take (i + 1)) σ' H', bk := D.nx } (σ'.set j (some (sv y))) H'
    rw [e2]
    exact hs _ y _ σ' H' e1 p
end
/-! ### words -/
def Word (a : Wd) : Prop := 1 ≤ a.length ∧ a.length ≤ 10 ∧ ∀ c ∈ a, c ∈ ABC
def Abc (a : Wd) : Prop := ∀ c ∈ a, c ∈ ABC
structure Code (xs : List Wd) : Prop where
  nd : xs.Nodup
  le : xs.length ≤ 12
  wd : ∀ a ∈ xs, Word a
theorem Code.len {xs : List Wd} (c : Code xs) {a : Wd} (h : a ∈ xs) : a.length ≤ 10 := (c.wd a h).2.1
/-- an item by a remainder -/
theorem pickm {α : Type} (xs : List α) (i : Int) (h : xs ≠ []) : ∃ v, v ∈ xs ∧ xs[(i % (xs.length : Int)).toNat]? = some v := by
  have hp : (0 : Int) < (xs.length : Int) := by
    have := List.length_pos_iff.mpr h
    omega
  exact pick (Int.emod_nonneg _ (Int.ne_of_gt hp)) (Int.emod_lt_of_pos _ hp)
theorem get_map {α β : Type} {f : α → β} {xs : List α} {i : Nat} {v : α} (h : xs[i]? = some v) : (xs.map f)[i]? = some (f v) := by
  rw [List.getElem?_map, h]; rfl
end One
namespace One
open PySem PySem.Spec PyProof.Rows L2
/-- an item at a place that lies in the list: whichever -/
theorem ex_pick {α : Type} {xs : List α} {i : Int} {Q : α → Prop} (h0 : 0 ≤ i) (h1 : i < xs.length) (q : ∀ v, v ∈ xs → Q v) : ∃ v, xs[i.toNat]? = some v ∧ Q v := by
  obtain ⟨v, hv, e⟩ := pick h0 h1
  exact ⟨v, e, q v hv⟩
theorem ex_pickm {α : Type} {xs : List α} {i : Int} {Q : α → Prop} (h : xs ≠ []) (q : ∀ v, v ∈ xs → Q v) : ∃ v, xs[(i % (xs.length : Int)).toNat]? = some v ∧ Q v := by
  obtain ⟨v, hv, e⟩ := pickm xs i h
  exact ⟨v, e, q v hv⟩
theorem Abc.app {a b : Wd} (h : Abc a) (k : Abc b) : Abc (a ++ b) := fun c hc => (List.mem_append.mp hc).elim (h c) (k c)
theorem Abc.take {a : Wd} (h : Abc a) (n : Nat) : Abc (a.take n) := fun c hc => h c (List.mem_of_mem_take hc)
theorem Abc.drop {a : Wd} (h : Abc a) (n : Nat) : Abc (a.drop n) := fun c hc => h c (List.mem_of_mem_drop hc)
theorem Word.abc {a : Wd} (h : Word a) : Abc a := h.2.2
theorem cutW_abc {a : Wd} (h : Abc a) (lo hi : Option Int) : Abc (cutW a lo hi) := fun c hc => h c (List.mem_of_mem_drop (List.mem_of_mem_take hc))
theorem Word.cut {a : Wd} (h : Abc a) (h1 : 1 ≤ a.length) {n : Int} (h2 : 1 ≤ n) (h3 : n ≤ 10) : Word (cutW a none (some n)) := by
  rw [cutW_toI a (by omega)]
  refine ⟨?_, ?_, h.take _⟩ <;> rw [List.length_take] <;> omega
end One
namespace One
open PySem PySem.Spec PyProof.Rows L2
def rSetLn : V → V → V → Hp → (Hp → Prop) → Prop := fun o i v H Q => ∃ (p : Addr) (k : Int), o = .ref p ∧ i = .int k ∧ ∃ xs, H p = some (.lst xs) ∧ 0 ≤ k ∧ k < xs.length ∧ Q (upd H p (.lst (xs.set k.toNat v)))
theorem set_ln {X : Cx} : PSet X rSetLn := fun pins s σ H o i v ov iv u Q I ro ri rv ⟨p, k, h1, h2, xs, h3, h4, h5, q⟩ =>
  set_list pins s σ H o i v ov iv u Q I ro ri rv ⟨p, xs, k, k.toNat, h1, h2, h3, by unfold ixN; rw [if_pos h4, if_pos h5], q⟩
def rSumN (K : PySem.W.Frag) : List V → Hp → VK → Prop := fun vs H Q => ∃ (a : Addr), vs = [V.ref a] ∧ ∃ ns : List Int, SqL K H a (ns.map V.int) ∧ Q (.int ns.sum) H
theorem call_sumn {X : Cx} (hc : X.calm = true) : CallR X (.builtin "sum") (rSumN X.K) := fun pins s σ H vs us Q I r ⟨a, h1, ns, h2, q⟩ => cr_sum hc pins s σ H vs us Q I r ⟨a, ns, h1, h2, q⟩
end One

namespace One
open PySem PySem.Spec PyProof.Rows L2
/-! ### sorted(texts, key=len) -/
theorem len_turn {prog : Program} {w : World} {A : Around} {s : Shared} {z : Str} {t : Tok} (hz : z.length ≤ sizeLine) :
    wpAny (model prog w) A (call (.builtin "len") [.str z t]) (PySem.W.KeyPure (.int z.length) s) (fun _ _ => False) s := by
  have hn := line63
  exact len_str (by omega) ⟨s.heap, _, rfl, fun _ _ h => h, .int _ _⟩
theorem each_strs : ∀ {us : List Value} {xs : List Str}, StrsAre us xs → PySem.W.EachIs (fun v x => ∃ t, v = .str x t) us xs
  | _, _, .nil => .nil
  | _, _, .cons _ t h => .cons ⟨t, rfl⟩ (each_strs h)
theorem strs_each : ∀ {us : List Value} {xs : List Str}, PySem.W.EachIs (fun v x => ∃ t, v = .str x t) us xs → StrsAre us xs
  | _, _, .nil => .nil
  | _, _, .cons ⟨t, e⟩ h => by subst e; exact .cons _ t (strs_each h)
def tSortLen (K : PySem.W.Frag) (ta : TA) : TE := fun σ H Q => ta σ H fun vs H1 => ∃ a, vs = [.ref a] ∧ ∃ ws : List Wd, SqL K H1 a (ws.map sv) ∧ ws.length ≤ 1000 ∧ (∀ w ∈ ws, w.length ≤ 1000) ∧ ∀ (zs : List Wd) (p : Addr), zs.Perm ws → zs.Pairwise (fun x y => x.length ≤ y.length) → H1 p = none → Q (.ref p) (upd H1 p (.lst (zs.map sv)))
theorem map_strs (ws : List Wd) : (ws.map S).map V.str = ws.map sv := by rw [List.map_map]; rfl
theorem perm_S {zs : List Str} {ws : List Wd} (h : zs.Perm (ws.map S)) : ∃ ys : List Wd, zs = ys.map S ∧ ys.Perm ws := by
  refine ⟨zs.map fun z => z.cps.toList, ?_, ?_⟩
  · rw [List.map_map]
    have : ∀ z ∈ zs, (S ∘ fun z => z.cps.toList) z = z := fun z hz => by
      obtain ⟨a, _, rfl⟩ := List.mem_map.mp (h.mem_iff.mp hz)
      rfl
    exact (List.map_id' zs).symm.trans (List.map_congr_left fun z hz => (this z hz).symm)
  · have := h.map fun z : Str => z.cps.toList
    rw [List.map_map] at this
    have e : ((fun z : Str => z.cps.toList) ∘ S) = id := by funext a; rfl
    rw [e, List.map_id] at this
    exact this
theorem pe_sortLen {X : Cx} {p p2 p3 pos : Pos} {e : Expr} {ta : TA} (hu : X.A.units + 64 < cLine) (hg : Gl X "sorted") (hm : X.mg "sorted" = none) (hgl : Gl X "len") (hml : X.mg "len" = none) (ha : PA X [e] ta)
    (h1 : backTo pos (starEach [e] X.env) = (false, eval e X.env) :: backTo pos (starEach [] X.env) := by rfl) (hpl : (backTo pos (starEach [e] X.env)).any (·.1) = false := by rfl)
    (hall : (backToKw pos (keywordEach [⟨some (Str.ofString "key"), .Name "len" p2, p3⟩] X.env)).all (·.1.isSome) = true := by rfl) (hnone : (backToKw pos (keywordEach [⟨some (Str.ofString "key"), .Name "len" p2, p3⟩] X.env)).any (·.1.isNone) = false := by rfl) (hks : (backToKw pos (keywordEach [⟨some (Str.ofString "key"), .Name "len" p2, p3⟩] X.env)).filterMap (·.1) = [Str.ofString "key"] := by rfl) :
    PE X (.Call (.Name "sorted" p) [e] [⟨some (Str.ofString "key"), .Name "len" p2, p3⟩] pos) (tSortLen X.K ta) := by
  refine ⟨fun pins s σ H Q I h => ?_⟩
  refine wpAny_Call_Name_kw (ld_blt I hg hm boot_sorted ?_)
  refine PyProof.Rows.callWith_kw (thn (ha.run pos pins s σ H _ I h) fun us s1 ⟨vs, H1, I1, r1, q1⟩ => ?_) h1 hpl hall hnone
  obtain ⟨a, rfl, ws, hS, hl, hb, q⟩ := q1
  obtain rfl := Vals.ref1 r1
  show wpAny _ _ (evalAll ((do let v ← eval (.Name "len" p2) X.env; standAt pos; pure v) :: [])) _ _ s1
  refine wpAny_evalAll_cons (wpAny_bind (ld_blt I1 hgl hml boot_len (wpAny_bind (wpAny_standAt (wpAny_pure (wpAny_evalAll_nil ?_))))))
  rw [hks]
  show wpAny _ _ (call (.builtin "sorted") [.ref a] [(Str.ofString "key", .builtin "len")]) _ _ s1
  obtain ⟨its, rv, pl, _⟩ := I1.list hS
  rw [← map_strs] at rv
  have e1 := each_strs rv.strs
  refine PySem.W.sorted_key_data (b := false) (fun z : Str => .int (z.length : Int)) pl.isList e1 ?_ ?_ (by rw [List.length_map]; exact sz (by omega)) (fun _ _ => ?_) (PyProof.Rows.ksk_s1 _ _) (fun _ => PyProof.Rows.ksk_l1 _ _) (fun x => PyProof.Rows.ksk_t4 "len" x) ?_ ?_
  · exact fun d hd d' hd' => by
      obtain ⟨a, _, rfl⟩ := List.mem_map.mp hd
      obtain ⟨b, _, rfl⟩ := List.mem_map.mp hd'
      rfl
  · exact .inr fun d hd => by
      obtain ⟨a, _, rfl⟩ := List.mem_map.mp hd
      exact ⟨fun z => (by cases z), fun _ z => (by cases z)⟩
  · show X.A.units + 2 + 0 < cLine
    omega
  · rintro v x ⟨t, rfl⟩ hx h tk _
    obtain ⟨w, hw, rfl⟩ := List.mem_map.mp hx
    exact len_turn (by rw [S_len]; exact sz (by have := hb w hw; omega))
  · intro out c h' tk keep fr new hlen each
    rw [PySem.W.dataLe_int] at each
    obtain ⟨ys, eys, py⟩ := perm_S (List.mergeSort_perm (ws.map S) _)
    have pw := List.pairwise_mergeSort (le := fun a b : Str => decide ((a.length : Int) ≤ b.length)) (fun a b c h1 h2 => by simp only [decide_eq_true_eq] at *; omega) (fun a b => by simp only [Bool.or_eq_true, decide_eq_true_eq]; omega) (ws.map S)
    rw [eys] at pw each
    rw [List.pairwise_map] at pw
    have vo : Vals (ys.map sv) out := by rw [← map_strs]; exact vals_of_strs (strs_each each)
    have lo : (ys.map sv).length ≤ sizeLine := by rw [List.length_map, py.length_eq]; exact sz (by omega)
    exact ⟨.ref (s1.heap.objs.size + 1), upd H1 (s1.heap.objs.size + 1) (.lst (ys.map sv)), I1.laid (t' := tk) keep (Nat.le_succ _) ⟨lo, out, c, vo, new⟩, rfl, q ys _ py (pw.imp fun h => by simpa [S_len] using h) (I1.hok.fresh (Nat.le_succ _))⟩
end One
namespace One
open PySem PySem.Spec PyProof.Rows L2
def rSortedW (K : PySem.W.Frag) : List V → Hp → VK → Prop := fun vs H Q => ∃ a : Addr, vs = [V.ref a] ∧ ∃ xs : List Wd, SqL K H a (xs.map sv) ∧ xs.length < 64 ∧
  ∀ (ys : List Wd), ys.Perm xs → sortedS (ys.map S) = true → ∀ p : Addr, H p = none → Q (.ref p) (upd H p (.lst (ys.map sv)))
theorem call_sortedw {X : Cx} : CallR X (.builtin "sorted") (rSortedW X.K) := fun pins s σ H vs us Q I r ⟨a, e, xs, h1, h2, q⟩ =>
  cr_sortedS pins s σ H vs us Q I r ⟨a, xs.map S, e, by rw [map_strs]; exact h1, by rw [List.length_map]; exact h2, fun ys p py so hp => by
    obtain ⟨zs, rfl, pz⟩ := perm_S py
    rw [map_strs]
    exact q zs pz so p hp⟩
end One
namespace One
open PySem PySem.Spec PyProof.Rows L2
section
variable {K : PySem.W.Frag} {tt : TT} {te : TE} {Qd : Hp → Prop} {σ : L2.St} {H1 : Hp} {a D : Addr}
def wv : V → Wd
  | .str x => x.cps.toList
  | _ => []
/-- a comprehension over a list of texts -/
theorem lc_w {xs : List Wd} {j : Nat} (c : Wd → Bool) (y : Wd → V) (hD : H1 D = none) (hS : SqL K H1 a (xs.map sv)) (hz : xs.length ≤ 100000)
    (ht : ∀ x ∈ xs, EvB tt ((wipe σ [j]).set j (some (sv x))) H1 (c x)) (he : ∀ x ∈ xs, c x = true → EvV te ((wipe σ [j]).set j (some (sv x))) H1 (y x))
    (hd : ∀ H', Same H1 H' → H' D = some (.lst ((xs.filter c).map y)) → Qd H') :
    ∃ W : Nat → Nat → Hp → Prop, (∃ m, W 0 m (upd H1 D (.lst []))) ∧ ∀ i m H, W i m H →
      ((Itl K a).stop i H ∧ Qd H) ∨ ((Itl K a).go i H ∧ ∃ Nx : Hp → Prop, (∀ H', Nx H' → ∃ m', m' < m ∧ W (i + 1) m' H') ∧ ∀ x H', (Itl K a).yld i H x H' → gName j x (wipe σ [j]) H' fun σ2 H2 => wipe σ2 [j] = wipe σ [j] ∧ tt σ2 H2 fun b H3 =>
        if b = true then te σ2 H3 fun y H4 => ∃ acc, H4 D = some (.lst acc) ∧ acc.length < sizeLine ∧ Nx (upd H4 D (.lst (acc ++ [y]))) else Nx H3) := by
  refine lc_vals (fun v => c (wv v)) (fun v => y (wv v)) hD hS (by rw [List.length_map]; exact hz) (fun x hx => ?_) (fun x hx hc => ?_) (fun H' e h => hd H' e ?_)
  · obtain ⟨b, hb, rfl⟩ := List.mem_map.mp hx
    exact ht b hb
  · obtain ⟨b, hb, rfl⟩ := List.mem_map.mp hx
    exact he b hb hc
  · rw [List.filter_map, List.map_map] at h
    exact h
theorem evYes {σ : L2.St} {H : Hp} : EvB tYes σ H true := fun H' e Q q => q _ (Same.refl _)
end
end One
namespace One
open PySem PySem.Spec PyProof.Rows L2
section
variable {tb : TS} {D : Ends} {σ : L2.St} {H : Hp}
/-- over a text, sign by sign: Pv by what was taken -/
theorem for_str {a : Wd} {j : Nat} (Pv : Wd → L2.St → Hp → Prop) (h0 : Pv [] σ H)
    (hs : ∀ pre x post σ' H', a = pre ++ x :: post → Pv pre σ' H' → tb { D with nx := Pv (pre ++ [x]), ct := Pv (pre ++ [x]), bk := D.nx } (σ'.set j (some (sv [x]))) H') (hd : ∀ σ' H', Pv a σ' H' → D.nx σ' H') :
    ∃ W : Nat → Nat → L2.St → Hp → Prop, (∃ m, W 0 m σ H) ∧ ∀ i m σ H, W i m σ H →
      ((Its (S a)).stop i H ∧ D.nx σ H) ∨ ((Its (S a)).go i H ∧ ∃ N : L2.St → Hp → Prop, (∀ σ' H', N σ' H' → ∃ m', m' < m ∧ W (i + 1) m' σ' H') ∧ ∀ x H', (Its (S a)).yld i H x H' → gName j x σ H' fun σ2 H2 => tb { D with nx := N, ct := N, bk := D.nx } σ2 H2) := by
  refine for_it walk_str (fun i σ' H' => Pv (a.take i) σ' H') (by rw [List.take_zero]; exact h0) (fun _ _ _ _ _ => trivial) ?_ (fun σ' H' p => hd σ' H' ?_)
  · rintro i x σ H H' hi p ⟨rfl, c, hc, rfl⟩
    have hc' : a[i]? = some c := by
      rw [← hc]; exact (List.getElem?_toArray).symm
    obtain ⟨hi', ey⟩ := List.getElem?_eq_some_iff.mp hc'
    have e1 : a = a.take i ++ c :: a.drop (i + 1) := by rw [← ey, List.getElem_cons_drop, List.take_append_drop]
    have e2 : a.take (i + 1) = a.take i ++ [c] := by rw [List.take_add_one, hc']; rfl
    show tb { D with nx := fun σ' H' => Pv (a.take (i + 1)) σ' H', ct := fun σ' H' => Pv (a.take (i + 1)) σ' H', bk := D.nx } (σ.set j (some (sv [c]))) _
    rw [e2]
    exact hs _ c _ σ _ e1 p
  · have : (S a).cps.size = a.length := by show a.toArray.size = _; simp
    rw [this, List.take_length] at p
    exact p
end
end One
namespace One
open PySem PySem.Spec PyProof.Rows L2
abbrev di (i : Int) : PyData := .int i
theorem dpAll_ints {K : PySem.W.Frag} {H : Hp} : ∀ xs : List Int, DpAll K H (xs.map V.int) (xs.map di)
  | [] => .nil
  | x :: r => .cons (.int _) (dpAll_ints r)
theorem eqvAll_ints : ∀ xs ys : List Int, PyData.eqvAll (xs.map di) (ys.map di) = decide (xs = ys)
  | [], [] => rfl
  | [], _ :: _ => by simp [PyData.eqvAll]
  | _ :: _, [] => by simp [PyData.eqvAll]
  | x :: xs, y :: ys => by
    have e : PyData.eqv (.int x) (.int y) = decide (x = y) := by
      simp only [PyData.eqv]
      by_cases h : x = y
      · subst h; simp
      · rw [decide_eq_false h]; simpa using h
    simp only [List.map_cons, PyData.eqvAll, e, eqvAll_ints xs ys, List.cons.injEq, Bool.decide_and]
theorem eqv_ints (xs ys : List Int) : PyData.eqv (.list (xs.map di)) (.list (ys.map di)) = decide (xs = ys) := by
  rw [← eqvAll_ints xs ys]; simp only [PyData.eqv]
theorem plain_ints : ∀ xs : List Int, PyData.plainAll (xs.map di) = true
  | [] => rfl
  | x :: r => by simp only [List.map_cons, PyData.plainAll, PyData.plain, plain_ints r, Bool.and_self]
theorem depth_ints : ∀ xs : List Int, PyData.depthAll (xs.map di) = 0
  | [] => rfl
  | x :: r => by simp only [List.map_cons, PyData.depthAll, PyData.depth, depth_ints r, Nat.max_self]
theorem ok_ints (xs : List Int) : okD (.list (xs.map di)) = true := by
  unfold okD
  simp only [PyData.plain, PyData.depth, plain_ints, depth_ints]
  decide
theorem ok_nil : okD (.list []) = true := rfl
def rClearN : V → List V → Hp → VK → Prop := fun x vs H Q => ∃ l : Addr, x = .ref l ∧ vs = [] ∧ ∃ xs, H l = some (.lst xs) ∧ Q .non (upd H l (.lst []))
theorem mt_clrn {X : Cx} : MtM X "list.clear" rClearN := MtM.imp mt_clear fun x vs H Q ⟨l, e1, e2, xs, h, q⟩ => ⟨l, xs, e1, e2, h, q⟩
end One

namespace One
open PySem PySem.Spec PyProof.Rows L2
/-! ### dicts by raw tables -/
theorem kI (i : Int) : V.int i = kV (.inl i) := rfl
theorem kS (a : Wd) : sv a = kV (.inr (S a)) := rfl
def tDInN (neg : Bool) (ty td : TE) : TE := fun σ H Q => ty σ H fun y H1 => td σ H1 fun x H2 => ∃ a, x = .ref a ∧ ∃ k, y = kV k ∧ ∃ kvs, Rd H2 a (.dK kvs) ∧ Q (.bl (if neg then !(valV kvs k).isSome else (valV kvs k).isSome)) H2
def tDGetN (td ty : TE) : TE := fun σ H Q => td σ H fun x H1 => ty σ H1 fun y H2 => ∃ a, x = .ref a ∧ ∃ k, y = kV k ∧ ∃ kvs, Rd H2 a (.dK kvs) ∧ ∃ v, valV kvs k = some v ∧ Q v H2
def sDPutN (td ty tv : TE) : TS := fun D σ H => tv σ H fun v H1 => td σ H1 fun x H2 => ty σ H2 fun y H3 => ∃ a, x = .ref a ∧ ∃ k, y = kV k ∧ ∃ kvs, H3 a = some (.dK kvs) ∧ kvs.length < 100000 ∧ D.nx σ (upd H3 a (.dK (putK kvs k v)))
def tDGet1N (td ty : TE) : TE := fun σ H Q => td σ H fun x H1 => ∃ a, x = .ref a ∧ ∃ kvs0, Rd H1 a (.dK kvs0) ∧ ty σ H1 fun y H2 => ∃ k, y = kV k ∧ ∃ kvs, Rd H2 a (.dK kvs) ∧ Q ((valV kvs k).getD .non) H2
theorem DGet.kr {H : Hp} {a : Addr} {kvs : List (Key × V)} {k : Key} (e : Rd H a (.dK kvs)) : DGet H a (kV k) (valV kvs k) := .inl ⟨kvs, k, e, rfl, rfl⟩
section
variable {X : Cx} {o i e value : Expr} {pos pos' apos cpos : Pos} {td ty tv : TE}
theorem pc_dinN (hu : X.A.units + 1 < cLine) (hi : PE X i ty) (ho : PE X o td) : PC X .In i o (tDInN false ty td) := by
  refine ⟨fun pins s σ H Q I h => ?_⟩
  refine thn (hi.run pins s σ H _ I h) fun iv s1 ⟨y, H1, I1, ry, q1⟩ => thn (ho.run pins s1 σ H1 _ I1 q1) fun u s2 ⟨x, H2, I2, rx, a, ex, k, ey, kvs, hk, q2⟩ => ?_
  subst ex ey
  obtain rfl : u = Value.ref a := rx
  exact d_in hu I2 (DGet.kr hk) ry fun s3 I3 => ⟨.bl (valV kvs k).isSome, H2, I3, rfl, q2⟩
theorem pc_dniN (hu : X.A.units + 1 < cLine) (hi : PE X i ty) (ho : PE X o td) : PC X .NotIn i o (tDInN true ty td) := by
  refine ⟨fun pins s σ H Q I h => ?_⟩
  refine thn (hi.run pins s σ H _ I h) fun iv s1 ⟨y, H1, I1, ry, q1⟩ => thn (ho.run pins s1 σ H1 _ I1 q1) fun u s2 ⟨x, H2, I2, rx, a, ex, k, ey, kvs, hk, q2⟩ => ?_
  subst ex ey
  obtain rfl : u = Value.ref a := rx
  exact d_notIn hu I2 (DGet.kr hk) ry fun s3 I3 => ⟨.bl (!(valV kvs k).isSome), H2, I3, rfl, q2⟩
theorem pe_dgetN (hu : X.A.units + 1 < cLine) (ho : PE X o td) (hi : PE X i ty) (hs : NoSl i) : PE X (.Subscript o i pos) (tDGetN td ty) := by
  refine ⟨fun pins s σ H Q I h => ?_⟩
  refine subD_of PySem.F.slot_dict_getitem.lookup hs (thn (ho.run pins s σ H _ I h) fun u s1 ⟨x, H1, I1, rx, q1⟩ => thn (hi.run pins s1 σ H1 _ I1 q1) fun iv s2 ⟨y, H2, I2, ry, a, ex, k, ey, kvs, hk, v, hv, q2⟩ => ?_)
  subst ex ey
  obtain rfl : u = Value.ref a := rx
  have g : DGet H2 a (kV k) (some v) := by rw [← hv]; exact DGet.kr hk
  exact ⟨dict_typeIs I2 g, d_getItem hu I2 g ry fun w' s3 I3 rw' => ⟨v, H2, I3, rw', q2⟩⟩
theorem ps_dputN (hu : X.A.units + 1 < cLine) (ho : PE X o td) (hi : PE X i ty) (hv : PE X value tv) (hs : swapsWith value (some (.Subscript o i pos')) pos.line X.env = pure false) :
    PS X (.Assign [.Subscript o i pos'] value pos) (sDPutN td ty tv) := by
  refine ⟨fun pins s σ H D I h => ?_⟩
  refine wpAny_Assign_Subscript (thn (hv.run pins s σ H _ I h) fun r s1 ⟨v, H1, I1, rv, q1⟩ => thn (ho.run pins s1 σ H1 _ I1 q1) fun u s2 ⟨x, H2, I2, rx, q2⟩ => thn (hi.run pins s2 σ H2 _ I2 q2) fun iv s3 ⟨y, H3, I3, ry, a, ex, k, ey, kvs, hk, hl, q3⟩ => ?_) hs
  subst ex ey
  obtain rfl : u = Value.ref a := rx
  exact d_setItem hu I3 (DPut.k hk (szl hl)) ry rv fun s4 I4 => ⟨σ, _, I4, q3⟩
theorem pe_dget1N (hu : X.A.units + 1 < cLine) (ho : PE X o td) (he : PE X e ty) (m : M1 X o "get" apos e cpos) : PE X (.Call (.Attribute o "get" apos) [e] [] cpos) (tDGet1N td ty) := by
  refine ⟨fun pins s σ H Q I h => ?_⟩
  refine wpAny_Call_method m.base m.few m.line PySem.F.plainAttrs_dict PySem.F.slot_dict_get PySem.F.type_dict_get (thn (ho.run pins s σ H _ I h) fun u s1 ⟨x, H1, I1, rx, a, ex, kvs0, d0, q1⟩ => ?_)
  subst ex
  obtain rfl : u = Value.ref a := rx
  obtain ⟨t1, t2, _⟩ := isD_at I1 (.inl ⟨kvs0, d0⟩)
  refine ⟨t1, t2, ?_⟩
  rw [m.trees]
  refine Calls.callWith_builtin rfl (Calls.evalArgs_plain (Calls.spliced_cons (thn (he.run pins s1 σ H1 _ I1 q1) fun iv s2 ⟨y, H2, I2, ry, k, ey, kvs, hk, q2⟩ => Calls.spliced_nil ?_)))
  subst ey
  exact d_get1 hu I2 (DGet.kr hk) ry fun w' s3 I3 rw' => ⟨_, H2, I3, rw', q2⟩
def rLenDN : List V → Hp → VK → Prop := fun xs H Q => ∃ a, xs = [V.ref a] ∧ ∃ kvs, H a = some (.dK kvs) ∧ Q (.int kvs.length) H
theorem call_lendn : CallR X (.builtin "len") rLenDN := CallR.imp call_lenD fun xs H Q ⟨a, e, kvs, h, q⟩ => ⟨a, kvs, e, h, q⟩
/-- an int in a list of ints -/
def rInN (K : PySem.W.Frag) (neg : Bool) : R2 := fun x y H Q => ∃ (n : Int) (p : Addr), x = .int n ∧ y = .ref p ∧ ∃ ns : List Int, SqL K H p (ns.map V.int) ∧ Q (.bl (if neg then !decide (n ∈ ns) else decide (n ∈ ns))) H
theorem inV_ints (n : Int) (ns : List Int) : inV (.int n) (ns.map V.int) = decide (n ∈ ns) := by
  unfold inV
  rw [List.any_map, Bool.eq_iff_iff, List.any_eq_true, decide_eq_true_iff]
  constructor
  · rintro ⟨x, hx, e⟩
    have e2 : (x == n) = true := e
    have e3 : x = n := by simpa using e2
    rw [← e3]; exact hx
  · intro h
    exact ⟨n, h, by show (n == n) = true; simp⟩
theorem flat_ints (xs : List Int) : (xs.map V.int).all flatV = true := by
  rw [List.all_eq_true]
  intro v hv
  obtain ⟨a, _, rfl⟩ := List.mem_map.mp hv
  rfl
theorem op_inn : OpR X (compareOp .In) (rInN X.K false) := OpR.imp op_in_seq fun x y H Q ⟨a, p, hx, hy, xs, h, q⟩ => ⟨p, xs.map V.int, hy, .inl h, by rw [hx]; rfl, flat_ints xs, by rw [hx, inV_ints]; exact q⟩
theorem op_nin : OpR X (compareOp .NotIn) (rInN X.K true) := OpR.imp op_notIn_seq fun x y H Q ⟨a, p, hx, hy, xs, h, q⟩ => ⟨p, xs.map V.int, hy, .inl h, by rw [hx]; rfl, flat_ints xs, by rw [hx, inV_ints]; exact q⟩
end
end One

namespace One
open PySem PySem.Spec PyProof.Rows L2
/-! ### methods -/
/-- the method m of the class C -/
def DefM (K : PySem.W.Frag) (C : Addr) (m qual : Str) (st : Stmt) : Prop := ∃ f fd, Meth K C m f ∧ FunD K m qual (defArgs st) (defBody st) (defScope st) [] [] f fd
/-- the class C under its name, and its __init__ -/
def DefI (K : PySem.W.Frag) (mg : Str → Option Value) (C : Addr) (x qual : Str) (st : Stmt) : Prop := ∃ f fd, Mk K C f ∧ mg x = some (.ref C) ∧ FunD K "__init__" qual (defArgs st) (defBody st) (defScope st) [] [] f fd
structure CalM (P : Program) (w : World) (K : PySem.W.Frag) (mg : Str → Option Value) (base : Heap) (CX : CXT) (C : Addr) (m : Str) (k : Nat) (ps : List Str) (sp : Sp) : Prop where
  ex : ∃ f fd, Meth K C m f ∧ Binds K fd ps [] ∧ FnOk P w K mg base CX k f fd ps sp
structure CalI (P : Program) (w : World) (K : PySem.W.Frag) (mg : Str → Option Value) (base : Heap) (CX : CXT) (C : Addr) (x : Str) (k : Nat) (ps : List Str) (sp : Sp) : Prop where
  ex : ∃ f fd, Mk K C f ∧ mg x = some (.ref C) ∧ Binds K fd ps [] ∧ FnOk P w K mg base CX k f fd ps sp
section
variable {P : Program} {w : World} {K : PySem.W.Frag} {mg : Str → Option Value} {base : Heap} {CX : CXT} {C : Addr} {x m qual : Str} {st : Stmt} {N ps : List Str} {k : Nat} {sp : Sp}
theorem DefM.cal (D : DefM K C m qual st) (S : FnScope N ps (defScope st))
    (hb : ∀ (kV doc pm : Value) (an : Option Addr) (cdv ct : Value) (us : List Value), us.length = ps.length → bindArgs (PySem.W.fnOf m qual (defArgs st) (defBody st) (defScope st) .none kV doc pm an cdv ct) ⟨us, []⟩ = pure (ps.zip us))
    (len : ∀ vs H Q E, sp vs H Q E → vs.length = ps.length)
    (hbody : ∀ (f : Addr) (cdv : Value) (A : Around) (outer : List Env) (s : Shared) (H : Hp) (vs : List V) (Q : VK) (E : XK), Room k (A.deeper (envOfC qual (defScope st) s.heap.objs.size f cdv)) → sp vs H Q E →
      ∃ t, PSs (cxOf CX P w K mg base N qual (defScope st) f cdv A outer s H E) (defBody st) t ∧ t { nx := fun _ H' => Q .non H', rt := Q } (start N vs) H) : CalM P w K mg base CX C m (k + 1) ps sp := by
  obtain ⟨f, fd, hm, F⟩ := D
  exact ⟨f, fd, hm, F.bindsN hb, F.ok S len fun cdv A outer s H vs Q E hr h => hbody f cdv A outer s H vs Q E hr h⟩
theorem DefI.cal (D : DefI K mg C x qual st) (S : FnScope N ps (defScope st))
    (hb : ∀ (kV doc pm : Value) (an : Option Addr) (cdv ct : Value) (us : List Value), us.length = ps.length → bindArgs (PySem.W.fnOf "__init__" qual (defArgs st) (defBody st) (defScope st) .none kV doc pm an cdv ct) ⟨us, []⟩ = pure (ps.zip us))
    (len : ∀ vs H Q E, sp vs H Q E → vs.length = ps.length)
    (hbody : ∀ (f : Addr) (cdv : Value) (A : Around) (outer : List Env) (s : Shared) (H : Hp) (vs : List V) (Q : VK) (E : XK), Room k (A.deeper (envOfC qual (defScope st) s.heap.objs.size f cdv)) → sp vs H Q E →
      ∃ t, PSs (cxOf CX P w K mg base N qual (defScope st) f cdv A outer s H E) (defBody st) t ∧ t { nx := fun _ H' => Q .non H', rt := Q } (start N vs) H) : CalI P w K mg base CX C x (k + 1) ps sp := by
  obtain ⟨f, fd, hm, hg, F⟩ := D
  exact ⟨f, fd, hm, hg, F.bindsN hb, F.ok S len fun cdv A outer s H vs Q E hr h => hbody f cdv A outer s H vs Q E hr h⟩
end
section
variable {X : Cx} {CX : CXT} {j k : Nat} {C : Addr} {ps : List Str} {sp : Sp} {E : XK} {x m : Str} {p pos apos : Pos} {o e : Expr} {es : List Expr} {ta : TE} {t : TA}
theorem pe_calM {pl : Sem Bool} (M : CalM X.prog X.w X.K X.mg X.base CX0 C m k ps sp) (c : Cls X.K C) (hr : Room j X.A) (he : PE X o ta) (ha : PA X (e :: es) t) (hk : k ≤ j := by decide)
    (hst : starEach (e :: es) X.env = (false, eval e X.env) :: starEach es X.env := by rfl) (hpl : (backTo pos (starEach es X.env)).any (·.1) = false := by rfl)
    (ht : eval (.Call (.Attribute o m apos) (e :: es) [] pos) X.env = (do
      let ov ← eval o X.env
      standAt apos.atName
      let (f, first) ← holding [ov] (getMethod ov m pl)
      callWith pos f first (backTo pos (starEach (e :: es) X.env)) (backToKw pos (keywordEach [] X.env))) := by rfl) :
    PE X (.Call (.Attribute o m apos) (e :: es) [] pos) (tMeth C m sp [] E0 ta t) := by
  obtain ⟨f, fd, hm, hb, F⟩ := M.ex
  exact pe_meth he c hm F (hr.mono hk) hb .nil pass0 ha hst hpl ht
theorem pe_calM0 {pl : Sem Bool} (M : CalM X.prog X.w X.K X.mg X.base CX0 C m k ps sp) (c : Cls X.K C) (hr : Room j X.A) (he : PE X o ta) (hk : k ≤ j := by decide)
    (ht : eval (.Call (.Attribute o m apos) [] [] pos) X.env = (do
      let ov ← eval o X.env
      standAt apos.atName
      let (f, first) ← holding [ov] (getMethod ov m pl)
      callWith pos f first (backTo pos (starEach [] X.env)) (backToKw pos (keywordEach [] X.env))) := by rfl) :
    PE X (.Call (.Attribute o m apos) [] [] pos) (tMeth C m sp [] E0 ta tNil) := by
  obtain ⟨f, fd, hm, hb, F⟩ := M.ex
  exact pe_meth0 he c hm F (hr.mono hk) hb .nil pass0 ht
theorem pe_calI (M : CalI X.prog X.w X.K X.mg X.base CX0 C x k ps sp) (hr : Room j X.A) (hk : k + 1 ≤ j := by decide) (hg : Gl X x := by rfl) (hdb : (x == ("__debug__" : Str)) = false := by decide) :
    PE X (.Call (.Name x p) [] [] pos) (tMake C sp [] E0 tNil) := by
  obtain ⟨f, fd, hm, hmg, hb, F⟩ := M.ex
  exact pe_make0 hm F (hr.mono hk) hg hmg hb .nil pass0 hdb
end
end One

namespace One
open PySem PySem.Spec PyProof.Rows L2
/-! ### loops over dicts of texts, dicts compared and copied -/
def RetD (H : Hp) (Q : VK) (kvs : List (Key × V)) : Prop := ∀ p H', Same H H' → H p = none → H' p = some (.dK kvs) → Q (.ref p) H'
theorem unlock {H H' : Hp} {d : Addr} {u f : HO} (h : H d = some u) (s : Same (upd H d f) H') : Same H (upd H' d u) := fun b o e => by
  by_cases z : b = d
  · rw [z] at e ⊢
    rw [upd_same, ← h, e]
  · rw [upd_ne z]
    exact s b o (by rw [upd_ne z]; exact e)
theorem lock_base {H H' : Hp} {d : Addr} {u : HO} (f : HO) (hd : H d = some u) (s : Same H H') :
    ∃ H0, Same H0 (upd H' d f) ∧ (∀ b o, b ≠ d → H b = some o → H0 b = some o) ∧ (∀ b, H b = none → H0 b = none) ∧ H0 d = some f ∧ ∀ H'', Same H0 H'' → Same H (upd H'' d u) := by
  refine ⟨upd H d f, fun b o e => ?_, fun b o n e => by rw [upd_ne n]; exact e, fun b e => ?_, upd_same, fun H'' => unlock hd⟩
  · by_cases z : b = d
    · rw [z] at e ⊢
      rw [upd_same] at e ⊢
      exact e
    · rw [upd_ne z] at e ⊢
      exact s b o e
  · rw [upd_ne (fun z => by rw [z, hd] at e; cases e)]; exact e
section
variable {K : PySem.W.Frag} {g : TG} {tb : TS} {D : Ends} {σ : L2.St} {H : Hp} {td : TE}
/-- a loop over the keys of the locked dict at d, all of them texts -/
theorem keys_in {d : Addr} {od : Obj} {kvs : List (Key × V)} {ks : List Wd} {j : Nat} (hk : kvs.map (·.1) = ks.map fun a => (.inr (S a) : Key)) (hd : H d = some (.frz od (.dK kvs)))
    (Pv : List Wd → L2.St → Hp → Prop) (h0 : Pv [] σ H) (hf : ∀ pre σ' H', Pv pre σ' H' → H' d = some (.frz od (.dK kvs)))
    (hs : ∀ pre x post σ' H', ks = pre ++ x :: post → Pv pre σ' H' → tb { D with nx := Pv (pre ++ [x]), ct := Pv (pre ++ [x]), bk := D.nx } (σ'.set j (some (sv x))) H') (he : ∀ σ' H', Pv ks σ' H' → D.nx σ' H') :
    ∃ d' o, V.ref d = .ref d' ∧ ((∃ kvs, H d' = some (.frz o (.dK kvs)) ∧ ∃ W : Nat → Nat → L2.St → Hp → Prop, (∃ m, W 0 m σ H) ∧ ∀ i m σ H, W i m σ H →
      ((Itk d' o kvs).stop i H ∧ D.nx σ H) ∨ ((Itk d' o kvs).go i H ∧ ∃ N : L2.St → Hp → Prop, (∀ σ' H', N σ' H' → ∃ m', m' < m ∧ W (i + 1) m' σ' H') ∧ ∀ x H', (Itk d' o kvs).yld i H x H' → gName j x σ H' fun σ2 H2 => tb { D with nx := N, ct := N, bk := D.nx } σ2 H2)) ∨
      ∃ kvs, H d' = some (.frz o (.dT kvs)) ∧ ∃ W : Nat → Nat → L2.St → Hp → Prop, (∃ m, W 0 m σ H) ∧ ∀ i m σ H, W i m σ H →
      ((Itkt d' o kvs).stop i H ∧ D.nx σ H) ∨ ((Itkt d' o kvs).go i H ∧ ∃ N : L2.St → Hp → Prop, (∀ σ' H', N σ' H' → ∃ m', m' < m ∧ W (i + 1) m' σ' H') ∧ ∀ x H', (Itkt d' o kvs).yld i H x H' → gName j x σ H' fun σ2 H2 => tb { D with nx := N, ct := N, bk := D.nx } σ2 H2)) := by
  have kl : kvs.length = ks.length := by
    have := congrArg List.length hk
    rwa [List.length_map, List.length_map] at this
  refine ⟨d, od, rfl, .inl ⟨kvs, hd, for_it walk_keys (fun i σ' H' => Pv (ks.take i) σ' H') (by rw [List.take_zero]; exact h0) (fun _ _ _ _ p => hf _ _ _ p) ?_ fun σ' H' p => he σ' H' ?_⟩⟩
  · rintro i x σ H H' hi p ⟨rfl, k, v, hkv, rfl⟩
    have hi' : i < ks.length := by omega
    have hq : (kvs.map (·.1))[i]? = some k := by rw [List.getElem?_map, hkv]; rfl
    rw [hk, List.getElem?_map, List.getElem?_eq_getElem hi'] at hq
    obtain rfl : (.inr (S ks[i]) : Key) = k := Option.some.inj hq
    have e1 : ks = ks.take i ++ ks[i] :: ks.drop (i + 1) := by rw [List.getElem_cons_drop, List.take_append_drop]
    have e2 : ks.take (i + 1) = ks.take i ++ [ks[i]] := by rw [List.take_add_one, List.getElem?_eq_getElem hi']; rfl
    show tb { D with nx := fun σ' H' => Pv (ks.take (i + 1)) σ' H', ct := fun σ' H' => Pv (ks.take (i + 1)) σ' H', bk := D.nx } (σ.set j (some (sv ks[i]))) _
    rw [e2]
    exact hs _ ks[i] _ σ _ e1 p
  · rw [kl, List.take_length] at p
    exact p
/-- a list of things told by what the heap has at them -/
theorem for_rl {α : Type} {a : Addr} {g : TG} {xs : List V} {qs : List α} (hl : xs.length = qs.length) (Pv : List α → L2.St → Hp → Prop) (h0 : Pv [] σ H)
    (hs0 : ∀ pre σ' H', Pv pre σ' H' → SqL K H' a xs)
    (hs : ∀ pre x post v σ' H', qs = pre ++ x :: post → xs[pre.length]? = some v → Pv pre σ' H' → g v σ' H' fun σ2 H2 => tb { D with nx := Pv (pre ++ [x]), ct := Pv (pre ++ [x]), bk := D.nx } σ2 H2) (hd : ∀ σ' H', Pv qs σ' H' → D.nx σ' H') :
    ∃ W : Nat → Nat → L2.St → Hp → Prop, (∃ m, W 0 m σ H) ∧ ∀ i m σ H, W i m σ H →
      ((Itl K a).stop i H ∧ D.nx σ H) ∨ ((Itl K a).go i H ∧ ∃ N : L2.St → Hp → Prop, (∀ σ' H', N σ' H' → ∃ m', m' < m ∧ W (i + 1) m' σ' H') ∧ ∀ x H', (Itl K a).yld i H x H' → g x σ H' fun σ2 H2 => tb { D with nx := N, ct := N, bk := D.nx } σ2 H2) := by
  refine for_list (xs := xs) (fun i σ' H' => Pv (qs.take i) σ' H') (by rw [List.take_zero]; exact h0) (fun i σ' H' _ p => hs0 _ _ _ p) (fun i x σ' H' hx p => ?_) (fun σ' H' p => hd σ' H' (by rw [hl, List.take_length] at p; exact p))
  have hi : i < xs.length := (List.getElem?_eq_some_iff.mp hx).1
  have hi' : i < qs.length := by omega
  have e1 : qs = qs.take i ++ qs[i] :: qs.drop (i + 1) := by rw [List.getElem_cons_drop, List.take_append_drop]
  have e2 : qs.take (i + 1) = qs.take i ++ [qs[i]] := by rw [List.take_add_one, List.getElem?_eq_getElem hi']; rfl
  rw [e2]
  exact hs _ qs[i] _ x σ' H' e1 (by rw [List.length_take, Nat.min_eq_left (Nat.le_of_lt hi')]; exact hx) p
end
section
variable {X : Cx}
def rEqDN : R2 := fun x y H Q => ∃ a b, x = .ref a ∧ y = .ref b ∧ ∃ ks, H a = some (.dK ks) ∧ ∃ ls, H b = some (.dK ls) ∧ ks.length = ls.length ∧ (∀ p ∈ ks, valV ls p.1 = some p.2 ∧ flatB p.2 = true) ∧ Q (.bl true) H
def rNeDN : R2 := fun x y H Q => ∃ a b, x = .ref a ∧ y = .ref b ∧ ∃ ks, H a = some (.dK ks) ∧ ∃ ls, H b = some (.dK ls) ∧ ks.length = ls.length ∧ (∀ p ∈ ks, valV ls p.1 = some p.2 ∧ flatB p.2 = true) ∧ Q (.bl false) H
theorem op_eqdn (hu : X.A.units + 1 < cLine) : OpR X (compareOp .Eq) rEqDN := OpR.imp (op_eq_dictA (by omega)) fun x y H Q ⟨a, b, hx, hy, ks, h1, ls, h2, h3, h4, q⟩ => ⟨a, b, ks, ls, hx, hy, h1, h2, h3, h4, q⟩
theorem op_nedn (hu : X.A.units + 1 < cLine) : OpR X (compareOp .NotEq) rNeDN := OpR.imp (op_ne_dictA (by omega)) fun x y H Q ⟨a, b, hx, hy, ks, h1, ls, h2, h3, h4, q⟩ => ⟨a, b, ks, ls, hx, hy, h1, h2, h3, h4, q⟩
theorem tyD {K : PySem.W.Frag} {H : Hp} {p : Addr} {kvs : List (Key × V)} (h : H p = some (.dK kvs)) : tyV K "dict" (.ref p) H := .inr (.inr (.inl ⟨rfl, .inl ⟨_, h⟩⟩))
def rDClearN : V → List V → Hp → VK → Prop := fun x vs H Q => ∃ a : Addr, x = .ref a ∧ vs = [] ∧ ∃ kvs, H a = some (.dK kvs) ∧ Q .non (upd H a (.dK []))
theorem mt_dclrn {X : Cx} : MtR X "dict.clear" rDClearN := by
  intro pins s σ H x vs v us Q I rx rv h
  obtain ⟨a, e1, e2, kvs, h1, q⟩ := h
  exact mtd_clear pins s σ H x vs v us Q I rx rv ⟨a, kvs, e1, e2, h1, q⟩
def rDictOf : List V → Hp → VK → Prop := fun xs H Q => ∃ a, xs = [V.ref a] ∧ ∃ kvs, Rd H a (.dK kvs) ∧ ∀ p : Addr, H p = none → Q (.ref p) (upd H p (.dK kvs))
theorem call_dictn : CallR X (.type "dict") rDictOf := CallR.imp call_dictD fun xs H Q ⟨a, e, kvs, h, q⟩ => ⟨a, kvs, e, h, q⟩
end
end One

namespace One
open PySem PySem.Spec PyProof.Rows L2
/-! ### sorted(rows, key=the size of a row's first word) -/
/-- a def that is called for a key: R tells of what it is asked and what it answers -/
structure KeyFn (P : Program) (w : World) (K : PySem.W.Frag) (mg : Str → Option Value) (base : Heap) (x : Str) (R : Hp → V → Nat → Prop) : Prop where
  ex : ∃ f, mg x = some (.ref f) ∧ ∀ (A : Around) (outer : List Env) (s : Shared) (H : Hp) (v : V) (u : Value) (n : Nat), Room 1 A → Env0 P w K mg base A outer s H → R H v n → RelV v u →
    wpAny (model P w) A (call (.ref f) [u]) (PySem.W.KeyPure (.int n) s) (fun _ _ => False) s
/-- a row whose first word has n signs -/
def RowHead (H : Hp) (v : V) (n : Nat) : Prop := ∃ (a : Addr) (w : Wd) (xs : List V), v = .ref a ∧ H a = some (.lst (sv w :: xs)) ∧ n = w.length ∧ w.length ≤ 1000
theorem ld_var {X : Cx} {E : Value → Shared → Prop} {pins : List (Addr × Obj)} {s : Shared} {σ : L2.St} {H : Hp} {i : Nat} {x : Str} {v : V} {pos : Pos} {Q : Value → Shared → Prop} (I : Inv X pins σ H s) (hN : X.N[i]? = some x) (e : σ[i]? = some (some v)) (hv : Vis X.env.scope x) (h : ∀ u, RelV v u → Q u s)
    (hd : (x == ("__debug__" : Str)) = false) (hcd : (x == ("__classdict__" : Str)) = false) : wpAny (model X.prog X.w) X.A (eval (.Name x pos) X.env) Q E s := by
  obtain ⟨m, hn, hl⟩ := I.loc
  obtain ⟨u, r, l⟩ := hl i x v hN e hv
  rcases l with ⟨hk, hm⟩ | ⟨hk, c, hc, hcell⟩
  · exact wpAny_Name (wpAny_loadName_local I.ok.kind hk hn hm (h u r)) hd
  · rcases hk with hk | hk
    · exact wpAny_Name (wpAny_loadName_cell I.ok.kind hk hc hcell (h u r)) hd
    · exact wpAny_Name (wpAny_loadName_free I.ok.kind hk hc hcell (h u r) hcd) hd
theorem headKey {P : Program} {w : World} {K : PySem.W.Frag} {mg : Str → Option Value} {base : Heap} {x y : Str} {st : Stmt} {p1 p2 p3 p4 p5 p6 : Pos} {j : Nat} (B : Bi mg) (D : Def K mg x st) (S : FnScope [y] [y] (defScope st))
    (hg : (defScope st).names.lookup ("len" : Str) = some NameKind.globalImplicit) (hv : Vis (defScope st) y) (hd : (y == ("__debug__" : Str)) = false) (hcl : (y == ("__classdict__" : Str)) = false) (hbd : defBody st = [.Return (some (.Call (.Name "len" p1) [.Subscript (.Name y p2) (.Constant (.int 0) j p3) p4] [] p5)) p6])
    (hb : ∀ (kV doc pm : Value) (an : Option Addr) (cdv ct : Value) (us : List Value), us.length = [y].length → bindArgs (PySem.W.fnOf x x (defArgs st) (defBody st) (defScope st) .none kV doc pm an cdv ct) ⟨us, []⟩ = pure ([y].zip us)) : KeyFn P w K mg base x RowHead := by
  obtain ⟨f, fd, hm, F⟩ := D
  have hbd2 := fun s us hl => FunD.bindsA (ps := [y]) F hb s us hl
  obtain ⟨oc, od, dV, kV, doc, pm, an, cdv, ct, osl, rfl, lk, hcd, _, _⟩ := F.ex
  refine ⟨f, hm, fun A outer s H v u n hr e0 hR r => ?_⟩
  obtain ⟨a, wd, xs, rfl, hL, rfl, hz⟩ := hR
  obtain rfl : u = Value.ref a := r
  have KX : K.In s.heap := e0.mod.kin.keeps fun b o e => (e0.bs b o e).1
  have lim : s.heap.NoLimit := e0.mod.nolimit.keeps fun b o e => (e0.bs b o e).1
  have hkind : ∀ z ∈ [y].zip [Value.ref a], (defScope st).names.lookup z.1 = some .local ∨ ((defScope st).names.lookup z.1 = some .cell ∧ ((cellsFrom (s.heap.objs.size + 1) (defScope st).names []).lookup z.1).isSome = true) := fun ⟨n, v⟩ hy => by
    rcases S.par n (List.of_mem_zip hy).1 with q | q
    · exact .inl q
    · exact .inr ⟨q, PySem.W.cellsFrom_some _ _ _ (.inl q)⟩
  refine wpAny_call (codeAny_call_function hr.depth (KX _ _ lk) rfl S.co S.gen rfl (PySem.W.codeRec_of KX hcd) (hbd2 s [.ref a] rfl _ _ _ _ ?_))
  refine wpAny_newFunctionEnv_cells S.kind hkind fun env he s1 x1 => ?_
  subst he
  refine ⟨lim.keeps x1.toInCall.keep, codeAny_func ?_⟩
  have I : Inv (cxOf CX0 P w K mg base [y] x (defScope st) f cdv A outer s H E0) [] (L2.start [y] [.ref a]) H s1 := inv_start (us := [.ref a]) (vs := [.ref a]) S hr.hd e0 rfl (.cons rfl .nil) x1
  rw [hbd]
  obtain ⟨h1, tk1, es1, k1⟩ := x1.done
  refine wpAny_execs_cons (wpAny_Return_some ?_)
  refine wpAny_Call_Name_kw (ld_blt (X := cxOf CX0 P w K mg base [y] x (defScope st) f cdv A outer s H E0) I hg B.len boot_len ?_)
  refine PyProof.Rows.callWith_builtin1 ?_ rfl rfl
  refine Calls.spliced_cons ?_
  refine Subscript_ (ld_var (X := cxOf CX0 P w K mg base [y] x (defScope st) f cdv A outer s H E0) (i := 0) I rfl rfl hv (fun u hu => ?_) hd hcl)
  obtain rfl : u = Value.ref a := hu
  refine wpAny_Constant_int ?_
  obtain ⟨its, rv, pl, hz2⟩ := I.list (SqL.of hL)
  cases rv with
  | cons r0 rr =>
    obtain ⟨t0, rfl⟩ := r0
    refine item_listR pl.isList (by decide) (by decide) rfl ?_
    have hn := line63
    have hl2 : (One.S wd).length = wd.length := S_len wd
    refine Calls.spliced_nil (len_str (by have := sz (show wd.length ≤ 100000 by omega); omega) ?_)
    show PySem.W.KeyPure _ s _ _
    exact ⟨h1, _, by rw [es1], k1, by rw [← hl2]; exact .int _ _⟩
/-- two things in an order of their own -/
theorem perm_two {α : Type} {a b : α} {zs : List α} (h : zs.Perm [a, b]) : zs = [a, b] ∨ zs = [b, a] := by
  have hl := h.length_eq
  match zs, hl with
  | [x, y], _ =>
    have hx : x ∈ [a, b] := h.mem_iff.mp List.mem_cons_self
    rcases List.mem_cons.mp hx with rfl | hx
    · have := (List.perm_cons x).mp h
      rw [List.perm_singleton.mp this]
      exact .inl rfl
    · obtain rfl := List.mem_singleton.mp hx
      have h2 : [y].Perm [a] := (List.perm_cons x).mp (h.trans (List.Perm.swap x a []))
      rw [List.perm_singleton.mp h2]
      exact .inr rfl
def tSortKey (K : PySem.W.Frag) (R : Hp → V → Nat → Prop) (ta : TA) : TE := fun σ H Q => ta σ H fun vs H1 => ∃ a, vs = [.ref a] ∧ ∃ bs : List (V × Nat), SqL K H1 a (bs.map (·.1)) ∧ bs.length ≤ 1000 ∧ (∀ b ∈ bs, R H1 b.1 b.2) ∧
  ∀ (zs : List (V × Nat)) (p : Addr), zs.Perm bs → zs.Pairwise (fun x y => x.2 ≤ y.2) → H1 p = none → Q (.ref p) (upd H1 p (.lst (zs.map (·.1))))
theorem each_vals : ∀ {us : List Value} {bs : List (V × Nat)}, Vals (bs.map (·.1)) us → PySem.W.EachIs (fun v (x : V × Nat) => RelV x.1 v) us bs
  | [], [], _ => .nil
  | _ :: _, b :: bs, .cons r h => .cons r (each_vals h)
theorem vals_each : ∀ {us : List Value} {bs : List (V × Nat)}, PySem.W.EachIs (fun v (x : V × Nat) => RelV x.1 v) us bs → Vals (bs.map (·.1)) us
  | _, _, .nil => .nil
  | _, _, .cons r h => .cons r (vals_each h)
theorem pe_sortKey {X : Cx} {x : Str} {R : Hp → V → Nat → Prop} {p p2 p3 pos : Pos} {e : Expr} {ta : TA} (KF : KeyFn X.prog X.w X.K X.mg X.base x R) (hr : Room 3 X.A) (hg : Gl X "sorted") (hm : X.mg "sorted" = none) (hgl : Gl X x) (hdb : (x == ("__debug__" : Str)) = false) (ha : PA X [e] ta)
    (h1 : backTo pos (starEach [e] X.env) = (false, eval e X.env) :: backTo pos (starEach [] X.env) := by rfl) (hpl : (backTo pos (starEach [e] X.env)).any (·.1) = false := by rfl)
    (hall : (backToKw pos (keywordEach [⟨some (Str.ofString "key"), .Name x p2, p3⟩] X.env)).all (·.1.isSome) = true := by rfl) (hnone : (backToKw pos (keywordEach [⟨some (Str.ofString "key"), .Name x p2, p3⟩] X.env)).any (·.1.isNone) = false := by rfl) (hks : (backToKw pos (keywordEach [⟨some (Str.ofString "key"), .Name x p2, p3⟩] X.env)).filterMap (·.1) = [Str.ofString "key"] := by rfl) :
    PE X (.Call (.Name "sorted" p) [e] [⟨some (Str.ofString "key"), .Name x p2, p3⟩] pos) (tSortKey X.K R ta) := by
  obtain ⟨f, hmf, KF⟩ := KF.ex
  have hu := hr.units
  refine ⟨fun pins s σ H Q I h => ?_⟩
  refine wpAny_Call_Name_kw (ld_blt I hg hm boot_sorted ?_)
  refine PyProof.Rows.callWith_kw (thn (ha.run pos pins s σ H _ I h) fun us s1 ⟨vs, H1, I1, r1, q1⟩ => ?_) h1 hpl hall hnone
  obtain ⟨a, rfl, bs, hS, hl, hb, q⟩ := q1
  obtain rfl := Vals.ref1 r1
  show wpAny _ _ (evalAll ((do let v ← eval (.Name x p2) X.env; standAt pos; pure v) :: [])) _ _ s1
  refine wpAny_evalAll_cons (wpAny_bind (ld_glob I1 hgl hmf (wpAny_bind (wpAny_standAt (wpAny_pure (wpAny_evalAll_nil ?_)))) hdb))
  rw [hks]
  show wpAny _ _ (call (.builtin "sorted") [.ref a] [(Str.ofString "key", .ref f)]) _ _ s1
  obtain ⟨its, rv, pl, _⟩ := I1.list hS
  have e1 := each_vals rv
  refine PySem.W.sorted_key_data (f := .ref f) (b := false) (fun z : V × Nat => .int (z.2 : Int)) pl.isList e1 ?_ ?_ (sz (by omega)) (fun _ _ => ?_) (PyProof.Rows.ksk_s1 _ _) (fun _ => PyProof.Rows.ksk_l1 _ _) (fun y => rfl) ?_ ?_
  · exact fun d hd d' hd' => by
      obtain ⟨a, _, rfl⟩ := List.mem_map.mp hd
      obtain ⟨b, _, rfl⟩ := List.mem_map.mp hd'
      rfl
  · exact .inr fun d hd => by
      obtain ⟨a, _, rfl⟩ := List.mem_map.mp hd
      exact ⟨fun z => (by cases z), fun _ z => (by cases z)⟩
  · show X.A.units + 2 + 0 < cLine
    omega
  · intro v y hv hy h tk keep
    have I2 : Inv X pins σ H1 { s1 with heap := h, toks := tk } := I1.kept (t' := tk) keep
    exact KF X.A.in1.in1 X.stack _ H1 y.1 v y.2 (hr.in1.in1) I2.env0.in1.in1 (hb y hy) hv
  · intro out c h' tk keep fr new hlen each
    rw [PySem.W.dataLe_int] at each
    have py := List.mergeSort_perm bs fun a b : V × Nat => decide ((a.2 : Int) ≤ b.2)
    have pw := List.pairwise_mergeSort (le := fun a b : V × Nat => decide ((a.2 : Int) ≤ b.2)) (fun a b c h1 h2 => by simp only [decide_eq_true_eq] at *; omega) (fun a b => by simp only [Bool.or_eq_true, decide_eq_true_eq]; omega) bs
    have vo := vals_each each
    have lo : ((bs.mergeSort fun a b : V × Nat => decide ((a.2 : Int) ≤ b.2)).map (·.1)).length ≤ sizeLine := by rw [List.length_map, py.length_eq]; exact sz (by omega)
    exact ⟨.ref (s1.heap.objs.size + 1), upd H1 (s1.heap.objs.size + 1) (.lst _), I1.laid (t' := tk) keep (Nat.le_succ _) ⟨lo, out, c, vo, new⟩, rfl, q _ _ py (pw.imp fun h => by simpa using h) (I1.hok.fresh (Nat.le_succ _))⟩
section
variable {K : PySem.W.Frag} {a : Addr} {tb : TS} {D : Ends} {σ : L2.St} {H : Hp}
/-- over a list of texts from its end -/
theorem for_rwl {xs : List Wd} {j : Nat} (Pv : List Wd → L2.St → Hp → Prop) (h0 : Pv [] σ H) (hl : ∀ pre σ' H', Pv pre σ' H' → SqL K H' a (xs.map sv))
    (hs : ∀ pre x post σ' H', xs.reverse = pre ++ x :: post → Pv pre σ' H' → tb { D with nx := Pv (pre ++ [x]), ct := Pv (pre ++ [x]), bk := D.nx } (σ'.set j (some (sv x))) H') (hd : ∀ σ' H', Pv xs.reverse σ' H' → D.nx σ' H') :
    ∃ W : Nat → Nat → L2.St → Hp → Prop, (∃ m, W 0 m σ H) ∧ ∀ i m σ H, W i m σ H →
      ((Itv K a (xs.map sv).length).stop i H ∧ D.nx σ H) ∨ ((Itv K a (xs.map sv).length).go i H ∧ ∃ N : L2.St → Hp → Prop, (∀ σ' H', N σ' H' → ∃ m', m' < m ∧ W (i + 1) m' σ' H') ∧ ∀ x H', (Itv K a (xs.map sv).length).yld i H x H' → gName j x σ H' fun σ2 H2 => tb { D with nx := N, ct := N, bk := D.nx } σ2 H2) := by
  refine for_it (walk_rev (xs := xs.map sv)) (fun i σ' H' => Pv (xs.reverse.take i) σ' H') (by rw [List.take_zero]; exact h0) (fun i σ' H' _ p => hl _ _ _ p) ?_ (fun σ' H' p => hd σ' H' ?_)
  · rintro i x σ H H' hi p ⟨rfl, hx⟩
    rw [List.length_map] at hi hx
    have hr : i < xs.reverse.length := by rw [List.length_reverse]; exact hi
    have ex : xs.reverse[i] = xs[xs.length - 1 - i]'(by omega) := List.getElem_reverse hr
    rw [List.getElem?_map, List.getElem?_eq_getElem (by omega)] at hx
    obtain rfl : sv _ = x := Option.some.inj hx
    rw [← ex]
    have e1 : xs.reverse = xs.reverse.take i ++ xs.reverse[i] :: xs.reverse.drop (i + 1) := by rw [List.getElem_cons_drop, List.take_append_drop]
    have e2 : xs.reverse.take (i + 1) = xs.reverse.take i ++ [xs.reverse[i]] := by rw [List.take_add_one, List.getElem?_eq_getElem hr]; rfl
    show tb { D with nx := fun σ' H' => Pv (xs.reverse.take (i + 1)) σ' H', ct := fun σ' H' => Pv (xs.reverse.take (i + 1)) σ' H', bk := D.nx } (σ.set j (some (sv xs.reverse[i]))) _
    rw [e2]
    exact hs _ xs.reverse[i] _ σ _ e1 p
  · rw [List.length_map, ← List.length_reverse, List.take_length] at p
    exact p
end
end One

namespace One
open PySem PySem.Spec PyProof.Rows L2
/-! ### an if whose branches meet again -/
theorem if_cont {b : Bool} {A : TS} {D : Ends} {σ : L2.St} {H : Hp} (I : L2.St → Hp → Prop) (hc : ∀ σ' H', I σ' H' → D.nx σ' H') (h1 : b = true → ∀ D' : Ends, D'.rt = D.rt → (∀ σ' H', I σ' H' → D'.nx σ' H') → A D' σ H) (h2 : b = false → I σ H) :
    if b = true then A D σ H else tNext D σ H := by
  cases b with
  | true => rw [if_pos rfl]; exact h1 rfl D rfl hc
  | false => rw [if_neg (by decide)]; exact hc _ _ (h2 rfl)
/-! ### comprehensions whose elements are made by calls -/
theorem Paired.get {α β : Type} {F : α → β → Prop} : ∀ {xs : List α} {ys : List β}, Paired F xs ys → ∀ (i : Nat) (v : α), xs[i]? = some v → ∃ y, ys[i]? = some y ∧ F v y
  | _, _, .nil, i, v, h => by cases h
  | _, _, .cons (a := a) (b := b) f t, 0, v, h => by
    obtain rfl : a = v := Option.some.inj h
    exact ⟨b, rfl, f⟩
  | _, _, .cons f t, i + 1, v, h => Paired.get t i v h
section
variable {K : PySem.W.Frag} {a : Addr} {te : TE} {σ : L2.St} {H1 : Hp} {D : Addr} {Qd : Hp → Prop}
theorem lc_p {xs : List Wd} {j : Nat} (F : Hp → V → Wd → Prop) (Fm : ∀ {H H' : Hp} {x : Wd} {v : V}, (∀ t u, H t = some (.tup u) → H' t = some (.tup u)) → F H v x → F H' v x) (hD : H1 D = none) (hS : SqL K H1 a (xs.map sv)) (hz : xs.length ≤ 100000)
    (he : ∀ x ∈ xs, ∀ H2, Same H1 H2 → ∀ Q : VK, (∀ v H3, Same H2 H3 → F H3 v x → Q v H3) → te ((wipe σ [j]).set j (some (sv x))) H2 Q)
    (hd : ∀ H' vs, Same H1 H' → H' D = some (.lst vs) → Paired (F H') vs xs → Qd H') :
    ∃ W : Nat → Nat → Hp → Prop, (∃ m, W 0 m (upd H1 D (.lst []))) ∧ ∀ i m H, W i m H →
      ((Itl K a).stop i H ∧ Qd H) ∨ ((Itl K a).go i H ∧ ∃ Nx : Hp → Prop, (∀ H', Nx H' → ∃ m', m' < m ∧ W (i + 1) m' H') ∧ ∀ x H', (Itl K a).yld i H x H' → gName j x (wipe σ [j]) H' fun σ2 H2 => wipe σ2 [j] = wipe σ [j] ∧ tYes σ2 H2 fun b H3 =>
        if b = true then te σ2 H3 fun y H4 => ∃ acc, H4 D = some (.lst acc) ∧ acc.length < sizeLine ∧ Nx (upd H4 D (.lst (acc ++ [y]))) else Nx H3) := by
  refine lc_list (K := K) (a := a) (xs := xs.map sv) (fun i H => Same H1 H ∧ ∃ vs, H D = some (.lst vs) ∧ Paired (F H) vs (xs.take i)) ⟨new hD, [], upd_same, .nil⟩ (fun i H _ p => p.1.seq hS) (fun i x H hx p => ?_) (fun H p => ?_)
  · rw [List.getElem?_map] at hx
    cases e : xs[i]? with
    | none => rw [e] at hx; cases hx
    | some y =>
      rw [e] at hx
      obtain rfl : sv y = x := Option.some.inj hx
      obtain ⟨s0, vs, h1, h2⟩ := p
      have e2 : xs.take (i + 1) = xs.take i ++ [y] := by rw [List.take_add_one, e]; rfl
      refine ⟨wipe1 σ j _, ?_⟩
      refine he y (List.mem_of_getElem? e) H s0 _ fun v H3 s3 hf => ⟨vs, s3 _ _ h1, ?_, mutd (s0.trans s3) hD, vs ++ [v], upd_same, ?_⟩
      · refine szl ?_
        rw [Paired.length h2, List.length_take]
        have : i < xs.length := (List.getElem?_eq_some_iff.mp e).1
        omega
      · have nt : ∀ t u, H3 t = some (.tup u) → upd H3 D (.lst (vs ++ [v])) t = some (.tup u) := fun t u et => by
          rw [upd_ne (fun z => by rw [z, s3 _ _ h1] at et; cases et)]; exact et
        rw [e2]
        exact Paired.snoc (Paired.mapP h2 fun a b h => Fm nt (Fm (fun t u => s3 t _) h)) (Fm nt hf)
  · obtain ⟨s0, vs, h1, h2⟩ := p
    rw [List.length_map, List.take_length] at h2
    exact hd H vs s0 h1 h2
end
end One

namespace One
open PySem PySem.Spec PyProof.Rows L2
/-! ### max(numbers, default=0) -/
def most : List Nat → Nat
  | [] => 0
  | x :: xs => max x (most xs)
theorem most_le {ns : List Nat} : ∀ n ∈ ns, n ≤ most ns := by
  induction ns with
  | nil => exact fun _ h => nomatch h
  | cons x xs ih =>
    intro n hn
    show n ≤ max x (most xs)
    rcases List.mem_cons.mp hn with rfl | hn
    · exact Nat.le_max_left _ _
    · exact Nat.le_trans (ih n hn) (Nat.le_max_right _ _)
theorem most_snoc (ns : List Nat) (n : Nat) : most (ns ++ [n]) = max (most ns) n := by
  induction ns with
  | nil => show max n 0 = max 0 n; omega
  | cons x xs ih =>
    show max x (most (xs ++ [n])) = max (max x (most xs)) n
    rw [ih]; omega
theorem maxOf_most (x : Nat) (ns : List Nat) : PySem.W.maxOf (Int.ofNat x) (ns.map Int.ofNat) = Int.ofNat (max x (most ns)) := by
  unfold PySem.W.maxOf
  induction ns generalizing x with
  | nil => exact congrArg Int.ofNat (by show x = max x 0; omega)
  | cons y ns ih =>
    rw [List.map_cons, List.foldl_cons]
    have e : (if PySem.W.DatumOrd.lt (Int.ofNat x) (Int.ofNat y) = true then Int.ofNat y else Int.ofNat x) = Int.ofNat (max x y) := by
      show (if decide (Int.ofNat x < Int.ofNat y) = true then Int.ofNat y else Int.ofNat x) = _
      by_cases h : x < y
      · have h' : Int.ofNat x < Int.ofNat y := Int.ofNat_lt.mpr h
        rw [if_pos (decide_eq_true h'), Nat.max_eq_right (Nat.le_of_lt h)]
      · have h' : ¬ decide (Int.ofNat x < Int.ofNat y) = true := fun z => h (Int.ofNat_lt.mp (of_decide_eq_true z))
        rw [if_neg h', Nat.max_eq_left (Nat.le_of_not_lt h)]
    rw [e, ih]
    exact congrArg Int.ofNat (by show max (max x y) (most ns) = max x (max y (most ns)); omega)
def tMaxD (K : PySem.W.Frag) (ta : TA) : TE := fun σ H Q => ta σ H fun vs H1 => ∃ a, vs = [.ref a] ∧ ∃ ns : List Nat, SqL K H1 a (ns.map fun n => V.int (n : Nat)) ∧ Q (.int (most ns : Nat)) H1
theorem hold_nats {h : Heap} : ∀ {us : List Value} {ns : List Nat}, Vals (ns.map fun n => V.int (n : Nat)) us → PySem.W.HoldAll h us (ns.map Int.ofNat)
  | [], [], _ => .nil
  | _ :: _, n :: ns, .cons r t => by
    obtain ⟨k, rfl⟩ := r
    exact .cons ⟨[], .int _ _⟩ (hold_nats t)
theorem pe_maxD {X : Cx} {p p2 p3 pos : Pos} {j : Nat} {e : Expr} {ta : TA} (hc : X.calm = true) (hu : X.A.units + 64 < cLine) (hg : Gl X "max") (hm : X.mg "max" = none) (ha : PA X [e] ta)
    (h1 : backTo pos (starEach [e] X.env) = (false, eval e X.env) :: backTo pos (starEach [] X.env) := by rfl) (hpl : (backTo pos (starEach [e] X.env)).any (·.1) = false := by rfl)
    (hall : (backToKw pos (keywordEach [⟨some (Str.ofString "default"), .Constant (.int 0) j p2, p3⟩] X.env)).all (·.1.isSome) = true := by rfl) (hnone : (backToKw pos (keywordEach [⟨some (Str.ofString "default"), .Constant (.int 0) j p2, p3⟩] X.env)).any (·.1.isNone) = false := by rfl) (hks : (backToKw pos (keywordEach [⟨some (Str.ofString "default"), .Constant (.int 0) j p2, p3⟩] X.env)).filterMap (·.1) = [Str.ofString "default"] := by rfl) :
    PE X (.Call (.Name "max" p) [e] [⟨some (Str.ofString "default"), .Constant (.int 0) j p2, p3⟩] pos) (tMaxD X.K ta) := by
  refine ⟨fun pins s σ H Q I h => ?_⟩
  refine wpAny_Call_Name_kw (ld_blt I hg hm (show bootBuiltins (Str.ofString "max") = some (.builtin "max") by decide +kernel) ?_)
  refine PyProof.Rows.callWith_kw (thn (ha.run pos pins s σ H _ I h) fun us s1 ⟨vs, H1, I1, r1, q1⟩ => ?_) h1 hpl hall hnone
  obtain ⟨a, rfl, ns, hS, q⟩ := q1
  obtain rfl := Vals.ref1 r1
  show wpAny _ _ (evalAll ((do let v ← eval (.Constant (.int 0) j p2) X.env; standAt pos; pure v) :: [])) _ _ s1
  refine wpAny_evalAll_cons (wpAny_bind (wpAny_Constant_int (wpAny_bind (wpAny_standAt (wpAny_pure (wpAny_evalAll_nil ?_))))))
  rw [hks]
  obtain ⟨its, rv, pl, _⟩ := I1.list hS
  have I2 := I1.tok (s1.toks + 1)
  have fin : ∀ (v : Value) (n : Nat) (h' : Heap) (tk : Nat), RelV (.int (n : Nat)) v → n = most ns → (∀ b o, s1.heap.get? b = some o → h'.get? b = some o) → EP X pins σ Q v { s1 with heap := h', toks := tk } := fun v n h' tk r e k =>
    ⟨.int (n : Nat), H1, I1.kept (t' := tk) k, r, by rw [e]; exact q⟩
  refine PySem.W.max_list_datum_default (α := Int) (xs := ns.map Int.ofNat) (I1.ok.hd hc) pl.isList (hold_nats rv) ?_ (fun e0 h' tk k => ?_) fun y ys i v h' tk e0 hi hv k => ?_
  · show X.A.units + 1 + 0 < cLine
    omega
  · obtain rfl : ns = [] := List.map_eq_nil_iff.mp e0
    exact fin _ 0 h' tk ⟨_, rfl⟩ rfl k
  · cases ns with
    | nil => cases e0
    | cons n ns =>
      obtain ⟨rfl, rfl⟩ := List.cons.inj e0
      rw [maxOf_most] at hv
      obtain ⟨as, rd⟩ := hv
      cases rd with
      | int i t => exact fin _ _ h' tk ⟨_, rfl⟩ rfl k
section
variable {tt : TT} {te : TE} {σ : L2.St} {H1 : Hp}
/-- a comprehension over the keys of the locked dict at d, all of them texts -/
theorem keys_lc {d : Addr} {od : Obj} {kvs : List (Key × V)} {ks : List Wd} {j : Nat} (hk : kvs.map (·.1) = ks.map fun a => (.inr (S a) : Key)) (hd : H1 d = some (.frz od (.dK kvs))) (hz : ks.length ≤ 100000)
    (c : Wd → Bool) (Qd : Addr → Hp → Prop) (ht : ∀ x ∈ ks, EvB tt ((wipe σ [j]).set j (some (sv x))) H1 (c x)) (he : ∀ x ∈ ks, c x = true → EvV te ((wipe σ [j]).set j (some (sv x))) H1 (sv x))
    (hq : ∀ D H', H1 D = none → Same H1 H' → H' D = some (.lst ((ks.filter c).map sv)) → Qd D H') :
    ∃ d' o, V.ref d = .ref d' ∧ ((∃ kvs, H1 d' = some (.frz o (.dK kvs)) ∧ ∀ D, H1 D = none → ∃ W : Nat → Nat → Hp → Prop, (∃ m, W 0 m (upd H1 D (.lst []))) ∧ ∀ i m H, W i m H →
      ((Itk d' o kvs).stop i H ∧ Qd D H) ∨ ((Itk d' o kvs).go i H ∧ ∃ Nx : Hp → Prop, (∀ H', Nx H' → ∃ m', m' < m ∧ W (i + 1) m' H') ∧ ∀ x H', (Itk d' o kvs).yld i H x H' → gName j x (wipe σ [j]) H' fun σ2 H2 => wipe σ2 [j] = wipe σ [j] ∧ tt σ2 H2 fun b H3 =>
        if b = true then te σ2 H3 fun y H4 => ∃ acc, H4 D = some (.lst acc) ∧ acc.length < sizeLine ∧ Nx (upd H4 D (.lst (acc ++ [y]))) else Nx H3)) ∨
      ∃ kvs, H1 d' = some (.frz o (.dT kvs)) ∧ ∀ D, H1 D = none → ∃ W : Nat → Nat → Hp → Prop, (∃ m, W 0 m (upd H1 D (.lst []))) ∧ ∀ i m H, W i m H →
      ((Itkt d' o kvs).stop i H ∧ Qd D H) ∨ ((Itkt d' o kvs).go i H ∧ ∃ Nx : Hp → Prop, (∀ H', Nx H' → ∃ m', m' < m ∧ W (i + 1) m' H') ∧ ∀ x H', (Itkt d' o kvs).yld i H x H' → gName j x (wipe σ [j]) H' fun σ2 H2 => wipe σ2 [j] = wipe σ [j] ∧ tt σ2 H2 fun b H3 =>
        if b = true then te σ2 H3 fun y H4 => ∃ acc, H4 D = some (.lst acc) ∧ acc.length < sizeLine ∧ Nx (upd H4 D (.lst (acc ++ [y]))) else Nx H3)) := by
  have kl : kvs.length = ks.length := by
    have := congrArg List.length hk
    rwa [List.length_map, List.length_map] at this
  refine ⟨d, od, rfl, .inl ⟨kvs, hd, fun D hD => ?_⟩⟩
  refine lc_it walk_keys (fun i H => Same H1 H ∧ H D = some (.lst (((ks.take i).filter c).map sv))) ⟨new hD, upd_same⟩ (fun i H _ p => p.1 _ _ hd) (fun i x H H' hi p y => ?_) (fun H p => ?_)
  · obtain ⟨rfl, k, v, hkv, rfl⟩ := y
    have hi' : i < ks.length := by omega
    have hq : (kvs.map (·.1))[i]? = some k := by rw [List.getElem?_map, hkv]; rfl
    rw [hk, List.getElem?_map, List.getElem?_eq_getElem hi'] at hq
    obtain rfl : (.inr (S ks[i]) : Key) = k := Option.some.inj hq
    have hm : ks[i] ∈ ks := List.getElem_mem hi'
    have e2 : ks.take (i + 1) = ks.take i ++ [ks[i]] := by rw [List.take_add_one, List.getElem?_eq_getElem hi']; rfl
    refine ⟨wipe1 σ j _, ht _ hm _ p.1 _ fun H2 s2 => ?_⟩
    refine itb (fun hc => ?_) fun hc => ?_
    · refine he _ hm hc H2 (p.1.trans s2) _ fun H3 s3 => ⟨_, s3 _ _ (s2 _ _ p.2), ?_, mutd ((p.1.trans s2).trans s3) hD, ?_⟩
      · refine szl ?_
        rw [List.length_map]
        have h1 := List.length_filter_le c (ks.take i)
        rw [List.length_take] at h1
        omega
      · rw [upd_same, e2, List.filter_append, List.map_append, List.filter_cons, if_pos hc]; rfl
    · refine ⟨p.1.trans s2, ?_⟩
      rw [s2 _ _ p.2, e2, List.filter_append, List.filter_cons, if_neg (by rw [hc]; decide)]
      simp
  · rw [kl, List.take_length] at p
    exact hq D H hD p.1 p.2
end
end One

namespace One
open PySem PySem.Spec PyProof.Rows L2
/-! ### sorted(a dict of texts), any length -/
def rSortedDA : List V → Hp → VK → Prop := fun xs H Q => ∃ a, xs = [V.ref a] ∧ ∃ kvs, Rd H a (.dK kvs) ∧ ∃ ks : List Wd, kvs.map (·.1) = ks.map (fun a => (.inr (S a) : Key)) ∧ ks.length ≤ 1000 ∧
  ∀ ys : List Wd, ys.Perm ks → sortedS (ys.map S) = true → ∀ p : Addr, H p = none → Q (.ref p) (upd H p (.lst (ys.map sv)))
theorem call_sortedDA {X : Cx} (calm : X.calm = true) : CallR X (.builtin "sorted") rSortedDA := by
  rintro pins s0 σ H xs us Q I0 rv ⟨ad, rfl, kvs, rd, ks, ek, lk, fin⟩
  obtain ⟨u1, rfl, r1⟩ := vals1 rv
  obtain rfl : u1 = Value.ref ad := r1
  obtain ⟨_, low, vs, kv, dof⟩ := dk_rd I0.hok rd
  obtain ⟨ep, at_⟩ := dof.dictAt
  have ev : vs.map (fun p => kV p.1) = ks.map sv := by
    have e1 : vs.map (·.1) = ks.map (fun a => (.inr (S a) : Key)) := kv.keys.symm.trans ek
    have e2 := congrArg (List.map (kV ·)) e1
    rw [List.map_map, List.map_map] at e2
    exact e2
  have nv : vs.length = ks.length := by
    have := congrArg List.length ev
    rwa [List.length_map, List.length_map] at this
  have big : vs.length ≤ sizeLine := by rw [nv]; exact sz (by omega)
  refine Calls.call_function_entry kind_sorted plain_sorted entry_sorted (args_sorted1 _) (show wpAny _ _ (Builtin.«sorted» ⟨[.ref ad], []⟩) _ _ s0 from ?_)
  unfold Builtin.«sorted»
  refine wpAny_bind (m := checkCount "sorted" 1 1 _) (wpAny_pure (wpAny_bind (PySem.W.kdu_collect (A := X.A.in1) (PySem.W.kdl_dict (knd := mixKind X.prog X.w) (kvs := vs) (ep := ep) low) (I0.ok.hd calm) at_ big fun g tk got kp io => ?_)))
  have gl : got.toList.length = vs.length := by rw [Array.length_toList, io.1]
  have gv : Vals (ks.map sv) got.toList := by
    rw [← ev]
    exact keys_at gl fun j v e => io.2 j v (by rw [← Array.getElem?_toList]; exact e)
  have gS : StrsAre got.toList (ks.map S) := by
    rw [← map_strs] at gv
    exact gv.strs
  have J : Inv X pins σ H { s0 with heap := g, toks := tk } := I0.kept kp
  refine wpAny_bind (wpAny_newList ?_ (by rw [gl]; exact big))
  have top : (g.push (seqObj "list" got.toList.toArray 0)).get? g.objs.size = some (seqObj "list" got.toList.toArray 0) := Heap.get?_push_size _ rfl
  refine wpAny_bind (wpAny_holding (wpAny_call_entry (s := { s0 with heap := g.push (seqObj "list" got.toList.toArray 0), toks := tk }) slot_list_sort ⟨_, top, rfl⟩ entry_list_sort (list_sort_treeKAny strKind_oneLt (s := { s0 with heap := g.push (seqObj "list" got.toList.toArray 0), toks := tk }) top gS.keysOf (fun _ _ _ e => keyKind_strs (by rw [← e]; exact gS)) (by rw [gl]; exact big) fun st c1 c2 => ⟨_, rfl, ?_⟩) (args_list_sort _)))
  obtain ⟨zs, z1, z2, z3⟩ := sorted_out_str gS c1 c2
  obtain ⟨ys, rfl, py⟩ := perm_S z2
  obtain ⟨ee, hee⟩ := sortedHeap_at (vs := got.toList) (out := (arrOf st).map (·.2)) top
  have vo : Vals (ys.map sv) ((arrOf st).map (·.2)).toList := by rw [← map_strs]; exact vals_of_strs z1
  have ll : (ys.map sv).length ≤ sizeLine := by rw [List.length_map, py.length_eq, ← nv]; exact big
  refine wpAny_pure ⟨_, rfl, .ref g.objs.size, upd H g.objs.size (.lst (ys.map sv)), J.laid (t' := tk) (fun b o e => ?_) (Nat.le_refl _) (show ObjOk X.prog X.w _ _ _ (.lst (ys.map sv)) from ⟨ll, _, ee, vo, by rw [Array.toArray_toList]; exact hee⟩), rfl, fin ys py z3 _ (J.hok.fresh (Nat.le_refl _))⟩
  have lt : b < g.objs.size := Heap.lt_size e
  rw [sortedHeap_old (Nat.ne_of_lt lt) (size_push' _ _ ▸ Nat.lt_succ_of_lt lt), Heap.get?_push_of_some _ e]
theorem rise_pair : ∀ (p : Wd) (xs : List Wd), risingS (S p) (xs.map S) = true → (p :: xs).Pairwise (fun a b : Wd => a ≤ b)
  | p, [], _ => List.pairwise_singleton _ _
  | p, x :: xs, h => by
    obtain ⟨h1, h2⟩ := Bool.and_eq_true_iff.mp (show (!ltCps (S x).cps.toList (S p).cps.toList && risingS (S x) (xs.map S)) = true from h)
    have ih := rise_pair x xs h2
    have px : p ≤ x := by
      rw [ltCps_eq] at h1
      have h2 : (!decide (x < p)) = true := h1
      exact fun z => by rw [decide_eq_true z] at h2; cases h2
    refine List.pairwise_cons.mpr ⟨fun y hy => ?_, ih⟩
    rcases List.mem_cons.mp hy with rfl | hy
    · exact px
    · exact List.le_trans px ((List.pairwise_cons.mp ih).1 y hy)
theorem sorted_pair {xs : List Wd} (h : sortedS (xs.map S) = true) : xs.Pairwise (fun a b : Wd => a ≤ b) := by
  cases xs with
  | nil => exact .nil
  | cons x xs => exact rise_pair x xs h
theorem sorted_uniq {xs ys : List Wd} (p : xs.Perm ys) (h : sortedS (xs.map S) = true) (k : sortedS (ys.map S) = true) : xs = ys :=
  List.Perm.eq_of_pairwise (le := fun a b : Wd => a ≤ b) (fun a b _ _ h1 h2 => List.le_antisymm h1 h2) (sorted_pair h) (sorted_pair k) p
end One
namespace One
open PySem PySem.Spec PyProof.Rows L2
/-- where a text stands first in a list of different ones -/
def rIndexW (K : PySem.W.Frag) : V → List V → Hp → VK → Prop := fun x xs H Q => ∃ a : Addr, x = V.ref a ∧ ∃ w : Wd, xs = [sv w] ∧ ∃ ws : List Wd, SqL K H a (ws.map sv) ∧ ws.Nodup ∧ ∃ j : Nat, ws[j]? = some w ∧ Q (.int (j : Nat)) H
theorem mt_indexw {X : Cx} : MtR X "list.index" (rIndexW X.K) := MtR.imp mt_index fun x xs H Q ⟨a, hx, w, hy, ws, hs, nd, j, hj, q⟩ => by
  refine ⟨a, ws.map sv, sv w, j, sv w, hx, hy, hs, rfl, ?_, by rw [List.getElem?_map, hj]; rfl, ?_, fun m z hm hz => ?_, q⟩
  · rw [List.all_eq_true]
    intro v hv
    obtain ⟨u, _, rfl⟩ := List.mem_map.mp hv
    rfl
  · show (S w == S w) = true
    simp
  · rw [List.getElem?_map] at hz
    cases e : ws[m]? with
    | none => rw [e] at hz; cases hz
    | some u =>
      rw [e] at hz
      obtain rfl : sv u = z := Option.some.inj hz
      show (S u == S w) = false
      obtain ⟨h1, e1⟩ := List.getElem?_eq_some_iff.mp e
      obtain ⟨h2, e2⟩ := List.getElem?_eq_some_iff.mp hj
      have : u ≠ w := fun z => by
        rw [← e1, ← e2] at z
        have := (List.getElem_inj nd).mp z
        omega
      simpa using fun z => this (S_inj.mp z)
end One

namespace One
open PySem PySem.Spec PyProof.Rows L2 L2H HotX
/-! ### the end of a walk while an exception is handled -/
section
variable {prog : Program} {w : World} {A : Around} {E : Value → Shared → Prop} {s : Shared}
/-- StopIteration raised and read, an exception x1 being handled -/
theorem hot_keep {A : Around} {x1 : Addr} {h h' : Heap} (t : HotAt A x1 h) (k : ∀ o, h.get? x1 = some o → h'.get? x1 = some o) : HotAt A x1 h' :=
  let ⟨a, o, vs, b, c, d⟩ := t; ⟨a, o, vs, k o b, c, d⟩
theorem hot_ne {A : Around} {x1 it : Addr} {h : Heap} (t : HotAt A x1 h) {o : Obj} {a b : Value} (e : h.get? it = some o) (d : o.data = .fields #[a, b]) : it ≠ x1 := fun z => by
  obtain ⟨_, o', vs, e', d', c⟩ := t
  rw [← z, e] at e'
  cases e'
  rw [d] at d'
  cases d'
  cases c
theorem stop_tail {x1 : Addr} {T oX : Obj} {vs : Array Value} {Q : Option Value → Shared → Prop} {R : PySem.Fin → Shared → Prop} (hot : HotAt A x1 s.heap) (hc : oX.cls = .type "StopIteration") (hd : oX.data = .fields vs) (hi : 2 < vs.size)
    (hQ : ∀ h', (∀ b o, s.heap.get? b = some o → h'.get? b = some o) → Q none { s with heap := h' }) :
    wpAny (model prog w) A.in1 (raiseNew (.ref (s.heap.push T).objs.size) : Sem (PySem.Fin)) R (fun e s' => wpAny (model prog w) A (do
      let b ← isInstance e (.type "StopIteration")
      if b = true then pure none else throw e) Q E s') { s with heap := (s.heap.push T).push oX } := by
  obtain ⟨hh, o1, v1, e1, d1, c1⟩ := hot
  have fX : oX.isFreed = false := Obj.isFreed_of_fields hd
  have k1 : ∀ b o, s.heap.get? b = some o → ((s.heap.push T).push oX).get? b = some o := fun b o e => Heap.get?_push_of_some _ (Heap.get?_push_of_some _ e)
  have top : ((s.heap.push T).push oX).get? (s.heap.push T).objs.size = some oX := Heap.get?_push_size _ fX
  have old : ∀ b o, s.heap.get? b = some o → (s.heap.push T).objs.size ≠ b := fun b o e => Nat.ne_of_gt (Heap.lt_size (Heap.get?_push_of_some _ e))
  refine raiseNew_hot (x1 := x1) ⟨hh, o1, v1, k1 _ _ e1, d1, c1⟩ (old _ _ e1).symm top hd hi ?_
  have top2 := Heap.get?_update_self (Obj.mapFields fun x => x.setIfInBounds 2 (.ref x1)) top (Obj.isFreed_of_fields (Obj.data_mapFields hd _))
  refine wpAny_bind (wpAny_isInstance (T := "StopIteration") (b := true) ⟨_, top2, (Obj.cls_mapFields ..).trans hc⟩ isSubtype_stop ?_)
  exact wpAny_pure (hQ _ fun b o e => (Heap.get?_update_other _ _ (old b o e)).trans (k1 b o e))
theorem list_end_hot {it l x1 : Addr} {i : Nat} {items : Array Value} {Q : Option Value → Shared → Prop} (hot : HotAt A x1 s.heap) (hit : s.heap.IsListIter it l i) (hl : s.heap.IsList l items) (hx : items[i]? = none)
    (hQ : ∀ h', Heap.ExtBut it s.heap h' → Q none { s with heap := h' }) : wpAny (model prog w) A (pyNext (.ref it)) Q E s := by
  obtain ⟨oi, g1, g2, g3⟩ := id hit
  obtain ⟨oL, g4, _, nL, g5⟩ := hl
  have far := hot_ne hot g1 g3
  unfold pyNext; refine wpAny_bind (wpAny_attempt (wpAny_callSpecial?_slot (name := Str.ofString "__next__") hit.typeIs slot_listiter_next (wpAny_call_entry slot_listiter_next hit.typeIs entry_listiter_next ?_ (args_listiter_next _))))
  show wpAny _ _ (field (.ref it) 0 >>= _) _ _ s; refine wpAny_bind (wpAny_field g1 g3 (x := .ref l) rfl ?_)
  show wpAny _ _ (if (Value.ref l == Value.none) = true then _ else _) _ _ s; rw [if_neg (show ¬ ((Value.ref l == Value.none) = true) from Bool.false_ne_true)]
  show wpAny _ _ (field (.ref it) 1 >>= _) _ _ s; refine wpAny_bind (wpAny_field g1 g3 (x := .int i 0) rfl ?_)
  show wpAny _ _ (seqItems? (.ref l) >>= _) _ _ s; refine wpAny_bind (wpAny_seqItems g4 g5 ?_)
  simp only [Int.toNat_natCast, hx]; refine wpAny_bind (wpAny_rule (wpAny_bind (wpAny_setField g1 g3 (by simp) ?_)))
  show wpAny _ _ (newExc (.type "StopIteration") [] >>= _) _ _ _; refine wpAny_bind ?_
  simp only [newExc, newTuple]; refine wpAny_bind (wpAny_newObj_type ?_ (by size_fits))
  refine wpAny_bind (m := firstArgMember _ _) (wpAny_of_eq (a := Value.none) (by first | rfl | (simp only [firstArgMember]; rfl)) ?_); refine wpAny_newObj_type ?_ (by size_fits)
  have hot2 := hot_keep hot (h' := s.heap.update it (Obj.mapFields fun x => x.setIfInBounds 0 .none)) fun o e => (Heap.get?_update_other _ _ far).trans e
  refine stop_tail (s := { s with heap := s.heap.update it (Obj.mapFields fun x => x.setIfInBounds 0 .none) }) hot2 rfl (by rfl) (by first | (simp; done) | (simp only [Array.size_append]; simp; omega)) fun h' k => hQ h' fun b o n e => k b o ((Heap.get?_update_other _ _ n.symm).trans e)
theorem tuple_end_hot {it l x1 : Addr} {i : Nat} {items : Array Value} {Q : Option Value → Shared → Prop} (hot : HotAt A x1 s.heap) (hit : IsTupIter s.heap it l i) (hl : IsTup s.heap l items) (hx : items[i]? = none)
    (hQ : ∀ h', Heap.ExtBut it s.heap h' → Q none { s with heap := h' }) : wpAny (model prog w) A (pyNext (.ref it)) Q E s := by
  obtain ⟨oi, g1, g2, g3⟩ := id hit
  obtain ⟨oL, g4, _, nL, g5⟩ := hl
  have far := hot_ne hot g1 g3
  unfold pyNext; refine wpAny_bind (wpAny_attempt (wpAny_callSpecial?_slot (name := Str.ofString "__next__") hit.typeIs slot_tupleiter_next (wpAny_call_entry slot_tupleiter_next hit.typeIs entry_tupleiter_next ?_ (args_tupleiter_next _))))
  show wpAny _ _ (field (.ref it) 0 >>= _) _ _ s; refine wpAny_bind (wpAny_field g1 g3 (x := .ref l) rfl ?_)
  show wpAny _ _ (if (Value.ref l == Value.none) = true then _ else _) _ _ s; rw [if_neg (show ¬ ((Value.ref l == Value.none) = true) from Bool.false_ne_true)]
  show wpAny _ _ (field (.ref it) 1 >>= _) _ _ s; refine wpAny_bind (wpAny_field g1 g3 (x := .int i 0) rfl ?_)
  show wpAny _ _ (seqItems? (.ref l) >>= _) _ _ s; refine wpAny_bind (wpAny_seqItems g4 g5 ?_)
  simp only [Int.toNat_natCast, hx]; refine wpAny_bind (wpAny_rule (wpAny_bind (wpAny_setField g1 g3 (by simp) ?_)))
  show wpAny _ _ (newExc (.type "StopIteration") [] >>= _) _ _ _; refine wpAny_bind ?_
  simp only [newExc, newTuple]; refine wpAny_bind (wpAny_newObj_type ?_ (by size_fits))
  refine wpAny_bind (m := firstArgMember _ _) (wpAny_of_eq (a := Value.none) (by first | rfl | (simp only [firstArgMember]; rfl)) ?_); refine wpAny_newObj_type ?_ (by size_fits)
  have hot2 := hot_keep hot (h' := s.heap.update it (Obj.mapFields fun x => x.setIfInBounds 0 .none)) fun o e => (Heap.get?_update_other _ _ far).trans e
  refine stop_tail (s := { s with heap := s.heap.update it (Obj.mapFields fun x => x.setIfInBounds 0 .none) }) hot2 rfl (by rfl) (by first | (simp; done) | (simp only [Array.size_append]; simp; omega)) fun h' k => hQ h' fun b o n e => k b o ((Heap.get?_update_other _ _ n.symm).trans e)
theorem items_hot {t x1 : Addr} {items : Array Value} {Q : List Value → Shared → Prop} (hot : HotAt A x1 s.heap) (ht : IsTup s.heap t items)
    (hQ : ∀ h', Heap.ExtBut s.heap.objs.size s.heap h' → Q items.toList { s with heap := h' }) : wpAny (model prog w) A (unpackItems (.ref t) items.size none) Q E s := by
  have apart : t ≠ s.heap.objs.size := let ⟨o, ho, _⟩ := ht; Nat.ne_of_lt (Heap.lt_size ho)
  have apart1 : x1 ≠ s.heap.objs.size := let ⟨_, o, _, ho, _⟩ := hot; Nat.ne_of_lt (Heap.lt_size ho)
  unfold unpackItems; refine wpAny_bind ?_
  unfold notIterableAtAll; refine wpAny_bind (wpAny_specialOf ht.typeIs slot_tuple_iter.lookup (wpAny_pure ?_))
  simp only [Bool.false_eq_true, if_false]; refine wpAny_bind (wpAny_holding (iter_tuple ht ?_))
  refine wpAny_bind (wpAny_holding (draw_tuple apart items.size 0 _ _ ⟨_, Heap.get?_push_size _ rfl, rfl, rfl⟩ (ht.push _) (by omega) fun h1 it1 s1 => ?_))
  have all : List.take items.size (List.drop 0 items.toList) = items.toList := by rw [List.drop_zero]; exact List.take_of_length_le (by simp)
  rw [all, if_neg (by simp)]
  have hot1 : HotAt A x1 h1 := hot_keep hot fun o e => (s1.2 x1 apart1).trans (Heap.get?_push_of_some _ e)
  refine wpAny_bind (wpAny_holding (tuple_end_hot hot1 it1 ((ht.push _).extBut s1.extBut apart) (by simp) fun h2 e2 => ?_))
  simp only [Option.isSome_none, Bool.false_eq_true, if_false]; exact wpAny_pure (hQ h2 fun b o hb e => e2 b o hb (s1.extBut b o hb (Heap.get?_push_of_some _ e)))
end
theorem pg_tupH {X : Cx} {es : List Expr} {k : Nat} {t : TGs} {n : Nat} {pos : Pos} (hc : HotC X) (h : PGs X es t) (hn : (assignEach es X.env).length = n := by rfl) (hst : (assignEach es X.env).findIdx? (·.1) = none := by rfl) : PG X (.Tuple es k pos) (gTup X.K n t) := by
  refine ⟨fun pins s σ H v u Q I r hw => ?_⟩
  obtain ⟨a, xs, rfl, hq, hl, hw⟩ := hw
  cases r
  obtain ⟨its, rv, ht, _⟩ := I.tuple hq
  obtain ⟨x1, hot⟩ := hc.at I
  have sz : (assignEach es X.env).length = its.toArray.size := by simp [hn, ← hl, rv.length]
  rw [assign_Tuple]
  refine wpAny_bind (wpAny_standAt ?_)
  unfold unpack
  rw [sz, hst]
  refine wpAny_bind (wpAny_holding (items_hot hot ht fun h' hx => ?_))
  have I1 : Inv X pins σ H { s with heap := h' } := I.kept (t' := s.toks) fun b o e => hx b o (Nat.ne_of_lt (Heap.lt_size e)) e
  exact h.run pins _ σ H xs _ Q I1 (by simpa using rv) hw
/-! ### a list walked there -/
theorem turn_listH {P : Program} {w : World} {K : PySem.W.Frag} {tg : Expr} (a it : Addr) : TurnH P w K tg (Itl K a) [it] it (fun i h => h.IsListIter it a i) where
  mem := List.mem_cons_self
  obj := fun i h ⟨o, e, _, d⟩ b hb => by
    rw [List.mem_singleton.mp hb]
    exact ⟨o, e, fun v z => by rw [d] at z; cases z⟩
  keep := fun i h h' st k => st.at fun o e => k it List.mem_cons_self o e
  item := by
    rintro X rfl rfl rfl _ i pins s σ H E I hf st ⟨xs, x, hq, hx⟩
    obtain ⟨its, rv, p, _⟩ := I.list hq
    obtain ⟨u, hu, ru⟩ := rv.get hx
    obtain ⟨f0, f1, f2, f3, f4, f5⟩ := hf it List.mem_cons_self
    refine wpAny_pyNext_list_item st p.isList (x := u) (by simpa using hu) fun h' st' sb => ?_
    have I1 : Inv X pins σ H { s with heap := h' } := I.turned (t' := s.toks) (fun b o hb e => (sb.2 b hb).trans e) f0 f1 f3 f4 f5
    obtain ⟨o, e, c, d⟩ := id st'
    refine ⟨u, rfl, go_of (s := { s with heap := h' }) e c d (by decide) ⟨x, H, I1, ru, ⟨rfl, fun ys hy => ?_⟩, st', fun b hb => (hf b hb).1⟩⟩
    rw [I.list_inj hy hq]; exact hx
  done := by
    rintro X rfl rfl rfl hc i pins s σ H E I hf st ⟨xs, hq, hx⟩
    obtain ⟨its, rv, p, _⟩ := I.list hq
    obtain ⟨f0, f1, f2, f3, f4, f5⟩ := hf it List.mem_cons_self
    obtain ⟨x1, hot⟩ := hc.at I
    have hl := rv.length
    exact list_end_hot hot st p.isList (by simp; omega) fun h' eb => ⟨rfl, I.turned (t' := s.toks) (fun b o hb e => eb b o hb e) f0 f1 f3 f4 f5⟩
  self := fun _ _ _ _ _ st h => wpAny_pyIter_listiter st h
theorem pi_listH {X : Cx} {tg l : Expr} {tl : TE} (hl : PE X l tl) : PIH X tg l (iList X.K tl) := by
  refine ⟨fun pins s σ H R I h => thn (hl.run pins s σ H _ I h) fun v s1 ⟨x, H1, I1, r1, a, e, ⟨xs, hq⟩, q⟩ => ?_⟩
  subst e
  cases r1
  obtain ⟨its, rv, p, _⟩ := I1.list hq
  refine wpAny_pyIter_list p.isList ⟨s1.heap.objs.size, [s1.heap.objs.size], _, _, H1, rfl, I1.kept (t' := s1.toks) fun b o e => Heap.get?_push_of_some _ e, turn_listH a _, ⟨_, Heap.get?_push_size _ rfl, rfl, rfl⟩, fun b hb => ?_, q⟩
  rw [List.mem_singleton.mp hb]; exact I1.fpOk (Nat.le_refl _) (I1.hok.fresh (Nat.le_refl _))
end One
namespace One
open PySem PySem.Spec PyProof.Rows L2 L2H HotX
/-! ### a comprehension there: its block keeps the pins -/
abbrev blkP (X : Cx) (s : Shared) (H : Hp) (scope : Scope) (ce : Env) (fp : List Addr) : Cx := { X.blk s H scope ce fp with pn := X.pn }
section
variable {X : Cx} {s sB : Shared} {H HB : Hp} {scope : Scope} {ce : Env} {fp : List Addr} {pl : List (Addr × Obj)} {τ : L2.St}
theorem to_blkP (J : Inv (X.blk s H scope ce fp) [] τ HB sB) (hp : ∀ p ∈ X.pn, sB.heap.get? p.1 = some p.2 ∧ HB p.1 = none ∧ p.1 ≠ ce.locals ∧ p.1 ∉ frs X.stack ∧ ∀ v, p.2.data ≠ .cell v) : Inv (blkP X s H scope ce fp) [] τ HB sB :=
  ⟨⟨J.ok.mod, J.ok.kind, J.ok.glob, J.ok.blt, J.ok.above, J.ok.inj, J.ok.has, J.ok.cab, J.ok.hd, J.ok.frames, J.ok.stk, J.ok.exf, J.ok.bs, J.ok.bsz, J.ok.noex, J.ok.exfs, J.ok.funs, J.ok.frf⟩,
   J.os, J.bare, J.base, J.loc, J.cell, J.free, J.freeC, fun p hm => hp p (by rw [List.append_nil] at hm; exact hm), J.hok, J.len⟩
end
theorem lc_hot {X : Cx} {pins : List (Addr × Obj)} {s : Shared} {σ : L2.St} {H : Hp} {Q : VK} {elt tg iter : Expr} {ifs : List Expr} {scope : Scope} {own : List (Str × Nat)} {pos pos' : Pos} {wi : TI} {g : TG} {tt : TT} {te : TE} {Qf : Value → Shared → Prop}
    (hc : HotC X) (hN : X.N.Nodup) (I : Inv X pins σ H s) (hi : PIH X tg iter wi) (ok : BlkOk X.N X.env.scope scope own)
    (hg : ∀ s H C cl fp, PG (blkP X s H scope (compEnvC scope cl C X.env) fp) tg g) (ht : ∀ s H C cl fp, PTs (blkP X s H scope (compEnvC scope cl C X.env) fp) ifs tt)
    (he : ∀ s H C cl fp, PE (blkP X s H scope (compEnvC scope cl C X.env) fp) elt te) (hs : ∀ x, foldedSetIterable iter X.env x = pure x) (h : tLc wi g tt te (own.map (·.2)) σ H Q)
    (fin : ∀ D C s' m H', Inv X pins σ H' s' → Q (.ref D) H' → s'.heap.Ns C m → FpOk X pins H' C → compPost (model X.prog X.w) X.A X.xe none Qf (.ref D) C (.ok .next) s') :
    wpAny (model X.prog X.w) X.A (comprehension (.ListComp elt [⟨tg, iter, ifs, 0⟩] scope pos) scope X.env pos' (newList []) false (eval iter X.env) none) Qf X.xe s := by
  have cells : ∀ y ∈ scope.names, y.2 = .free → ∃ c, X.env.cells.lookup y.1 = some c := fun y hy e => (ok.free y hy e).elim (fun k => I.ok.has _ (.inl k)) fun k => I.ok.has _ (.inr k)
  refine wpAny_comprehension_free (use := none) rfl hs (closure_ok cells) ok.kind (fun y hy e => by rw [ok.uniq y hy, e]) (thn (hi.run pins s σ H _ I h) fun xv sa hx => thn hx fun itv sb hb => ?_)
  obtain ⟨it, fp, tn, J, Hb, rfl, Ib, T, tn0, fpo, w0⟩ := hb
  refine wpAny_newObj_type (newEnv_comp ?_) (Nat.zero_le _)
  have newD : Hb sb.heap.objs.size = none := Ib.hok.fresh (Nat.le_refl _)
  obtain ⟨W, ⟨m0, start⟩, turn⟩ := w0 _ newD
  -- the list is laid
  let D := sb.heap.objs.size
  let sc : Shared := { sb with heap := sb.heap.push { cls := .type "list", data := .seq ([] : List Value).toArray } }
  let Hc : Hp := upd Hb D (.lst [])
  have topD : sc.heap.get? D = some { cls := .type "list", data := .seq ([] : List Value).toArray } := Heap.get?_push_size _ rfl
  have Ic : Inv X pins σ Hc sc := Ib.laid (t' := sb.toks) (fun b o e => Heap.get?_push_of_some _ e) (Nat.le_refl _) ⟨Nat.zero_le _, [], 0, .nil, topD⟩
  have below : ∀ b ∈ fp, b < sb.heap.objs.size := fun b hb => let ⟨o, e, _⟩ := T.obj _ _ tn0 b hb; Heap.lt_size e
  have fpc : ∀ b ∈ fp, FpOk X pins Hc b ∧ b < sc.heap.objs.size := fun b hb => by
    have lt := below b hb
    refine ⟨⟨?_, (fpo b hb).2⟩, by show b < (sb.heap.push _).objs.size; rw [Heap.size_push]; exact Nat.lt_succ_of_lt lt⟩
    show upd Hb D _ b = none
    rw [upd_ne (Nat.ne_of_lt lt)]; exact (fpo b hb).1
  let ce : Env := compEnvC scope (cellsFrom (sc.heap.objs.size + 1) scope.names (cloFrom X.env.cells scope.names [])) sc.heap.objs.size X.env
  let sd : Shared := { sc with heap := pushCells (sc.heap.push { cls := .type "dict", data := .dict #[] }) scope.names }
  have kd : ∀ b o, sc.heap.get? b = some o → sd.heap.get? b = some o := fun b o e => pushCells_keeps _ _ _ _ (Heap.get?_push_of_some _ e)
  have Id : Inv (blkP X sc Hc scope ce fp) [] (wipe σ (own.map (·.2))) Hc sd := to_blkP (block_start Ic ok hN fpc) fun p hp => by
    obtain ⟨z1, z2, z3, z4, z5⟩ := Ic.pin p (List.mem_append_left _ hp)
    exact ⟨kd _ _ z1, z2, Nat.ne_of_lt (Heap.lt_size z1), fun hm => (List.mem_cons.mp (Ic.stkSub p.1 hm)).elim z3 z4, z5⟩
  have hcP : HotC (blkP X sc Hc scope ce fp) := hc
  have tnd : tn 0 sd.heap := T.keep _ _ _ tn0 fun b _ o e => kd _ _ (Heap.get?_push_of_some _ e)
  have pinNe : ∀ b ∈ fp, ∀ p ∈ X.pn, p.1 ≠ b := fun b hb p hp => (fpo b hb).2.2.2.2.2 p (List.mem_append_left _ hp)
  have stat : ∀ {τ : L2.St} {H' : Hp} {s' : Shared}, Inv (blkP X sc Hc scope ce fp) [] τ H' s' → (∀ b ∈ fp, H' b = none) → ∀ b ∈ fp, FpOk (blkP X sc Hc scope ce fp) [] H' b := fun I' n b hb =>
    ⟨n b hb, (I'.ok.exf b hb).1, I'.ok.exfs b hb, .inl hb, fun x c e => (I'.ok.exf b hb).2 x c e, fun p hp => pinNe b hb p (by rw [List.append_nil] at hp; exact hp)⟩
  have pg := hg sc Hc sc.heap.objs.size (cellsFrom (sc.heap.objs.size + 1) scope.names (cloFrom X.env.cells scope.names [])) fp
  have pt := ht sc Hc sc.heap.objs.size (cellsFrom (sc.heap.objs.size + 1) scope.names (cloFrom X.env.cells scope.names [])) fp
  have pe := he sc Hc sc.heap.objs.size (cellsFrom (sc.heap.objs.size + 1) scope.names (cloFrom X.env.cells scope.names [])) fp
  show codeAny _ _ (.compStart (.ListComp elt [⟨tg, iter, ifs, 0⟩] scope pos) 0 (.ref it) (.ref D) ce) (compPost (model X.prog X.w) X.A X.xe none Qf (.ref D) sc.heap.objs.size) sd
  have loop : codeAny (model X.prog X.w) X.A (.compLoop (.ListComp elt [⟨tg, iter, ifs, 0⟩] scope pos) 0 (.ref it) (.ref D) ce) (compPost (model X.prog X.w) X.A X.xe none Qf (.ref D) sc.heap.objs.size) sd := by
    refine compLoop_any (fun n s' => ∃ i H', Inv (blkP X sc Hc scope ce fp) [] (wipe σ (own.map (·.2))) H' s' ∧ tn i s'.heap ∧ (∀ b ∈ fp, H' b = none) ∧ W i n H') ?_ m0 ⟨0, Hc, Id, tnd, fun b hb => (fpc b hb).1.1, start⟩
    rintro n s5 ⟨i, H5, I5, t5, n5, w5⟩
    rcases turn i n H5 w5 with ⟨stop, qq⟩ | ⟨go, Nx, hNx, step⟩
    · refine thnF (T.done (blkP X sc Hc scope ce fp) rfl rfl rfl hcP i [] s5 _ H5 (fun _ _ => False) I5 (stat I5 n5) t5 stop) fun r s6 ⟨hr, I6⟩ => ?_
      subst hr
      have back : Inv X pins σ H5 s6 := Ic.call' (ch := fp) I6.os I6.base I6.hok I6.bare fun b hb => let z := (fpc b hb).1.2; ⟨z.2.2.1, z.1, z.2.2.2.1, z.2.2.2.2⟩
      obtain ⟨m, hn, _⟩ := I6.loc
      exact fin D sc.heap.objs.size s6 m H5 back qq hn (Ic.fpOk (Nat.le_refl _) I6.free)
    · refine thnF (T.item (blkP X sc Hc scope ce fp) rfl rfl rfl hcP i [] s5 _ H5 (fun _ _ => False) I5 (stat I5 n5) t5 go) fun r s6 ⟨u, hr, h6⟩ => ?_
      subst hr
      refine thnF h6 fun _ s7 ⟨x, H7, I7, r7, y7, t7, n7⟩ => ?_
      have J7 := I7.pinned (stat I7 n7) (T.obj _ _ t7)
      refine thnF (pg.run _ s7 _ H7 x u _ J7 r7 (step x H7 y7)) fun _ s8 ⟨σ8, H8, I8, e8, q8⟩ => ?_
      refine thnF (pt.run _ s8 σ8 H8 _ I8 q8) fun b s9 ⟨H9, I9, q9⟩ => ?_
      have again : ∀ {s' : Shared} {H' : Hp}, Inv (blkP X sc Hc scope ce fp) ([] ++ pinsAt fp s7.heap) σ8 H' s' → Nx H' → ∃ m, m < n ∧ ∃ i H', Inv (blkP X sc Hc scope ce fp) [] (wipe σ (own.map (·.2))) H' s' ∧ tn i s'.heap ∧ (∀ b ∈ fp, H' b = none) ∧ W i m H' := fun {s' H'} I' nx => by
        obtain ⟨m', lt, w'⟩ := hNx H' nx
        have held : ∀ b ∈ fp, ∀ o, s7.heap.get? b = some o → s'.heap.get? b = some o ∧ H' b = none := fun b hb o e => let z := I'.pin (b, o) (List.mem_append_right _ (List.mem_append_right _ (mem_pinsAt hb e))); ⟨z.1, z.2.1⟩
        refine ⟨m', lt, i + 1, H', (I'.unpinned (pins := [])).weak (by rw [← e8, wipe_length]) (fun j v e => (wipe_some (by rw [e8]; exact e)).1), T.keep _ _ _ t7 fun b hb o e => (held b hb o e).1, fun b hb => ?_, w'⟩
        obtain ⟨o, e, _⟩ := T.obj _ _ t7 b hb
        exact (held b hb o e).2
      cases b with
      | false => exact again I9 q9
      | true => exact thnF (pe.run _ s9 σ8 H9 _ I9 q9) fun z s10 ⟨yv, H10, I10, r10, acc, hD, hz, nx⟩ => app_ok (X := blkP X sc Hc scope ce fp) I10 hD hz r10 fun s11 I11 => again I11 nx
  exact codeAny_compStart_list loop (T.self X.A 0 _ _ _ tnd loop)
theorem pe_lcH {X : Cx} {elt tg iter : Expr} {ifs : List Expr} {scope : Scope} {own : List (Str × Nat)} {pos : Pos} {wi : TI} {g : TG} {tt : TT} {te : TE} (hc : HotC X) (hN : X.N.Nodup) (hi : PIH X tg iter wi) (ok : BlkOk X.N X.env.scope scope own)
    (hg : ∀ s H C cl fp, PG (blkP X s H scope (compEnvC scope cl C X.env) fp) tg g) (ht : ∀ s H C cl fp, PTs (blkP X s H scope (compEnvC scope cl C X.env) fp) ifs tt)
    (he : ∀ s H C cl fp, PE (blkP X s H scope (compEnvC scope cl C X.env) fp) elt te) (hs : ∀ x, foldedSetIterable iter X.env x = pure x := by intro _; rfl) : PE X (.ListComp elt [⟨tg, iter, ifs, 0⟩] scope pos) (tLc wi g tt te (own.map (·.2))) := by
  refine ⟨fun pins s σ H Q I h => ?_⟩; rw [eval_ListComp]
  refine lc_hot hc hN I hi ok hg ht he hs h fun D C s' m H' I' q hn ⟨f0, f1, f2, f3, f4, f5⟩ => ⟨m, hn, fun h2 sb => ?_⟩
  exact ⟨.ref D, H', I'.turned (t' := s'.toks) (fun b o hb e => (sb.2 b hb).trans e) f0 f1 f3 f4 f5, rfl, q⟩
end One
namespace One
open PySem PySem.Spec PyProof.Rows L2 L2H HotX
/-! ### a def of one argument, the exception that is handled -/
/-- p's object is an exception of the own class D without own fields -/
def ExcAt (D : Addr) (p : Addr × Obj) : Prop := L2N.Zn (.ref D) none p.2 ∧ ∃ vs : Array Value, p.2.data = .fields vs
abbrev cxE (P : Program) (w : World) (K : PySem.W.Frag) (mg : Str → Option Value) (base : Heap) (N : List Str) (qual : Str) (sc : Scope) (f : Addr) (cd : Value) (A : Around) (outer : List Env) (s : Shared) (H : Hp) (p : Addr × Obj) : Cx :=
  cxH CX0 P w K mg base N qual sc f cd A outer s H E0 p
structure CalX (P : Program) (w : World) (K : PySem.W.Frag) (mg : Str → Option Value) (base : Heap) (x : Str) (k : Nat) (sp : Addr → Hp → VK → Prop) : Prop where
  ex : ∃ f fd, mg x = some (.ref f) ∧ PySem.W.keepIn K (.ref f) = true ∧ Binds K fd ["_law_e"] [] ∧
    ∀ (D : Addr) (A : Around) (outer : List Env) (s : Shared) (H : Hp) (args : Args) (u : Value) (Q : VK) (p : Addr × Obj), RoomH k A → Hot1 A p → ExcAt D p → PinOk outer H s p → Env0 P w K mg base A outer s H → BindsTo s fd args [("_law_e", u)] → RelV (.ref p.1) u → sp D H Q →
      codeAny (model P w) A (.call (.ref f) args) (CR CX0 outer P w H s Q E0) s
theorem Def.calX {P : Program} {w : World} {K : PySem.W.Frag} {mg : Str → Option Value} {base : Heap} {x : Str} {st : Stmt} {N : List Str} {k : Nat} {sp : Addr → Hp → VK → Prop} (d : Def K mg x st) (S : FnScope N ["_law_e"] (defScope st))
    (hb : ∀ (kV doc pm : Value) (an : Option Addr) (cdv ct : Value) (us : List Value), us.length = 1 → bindArgs (PySem.W.fnOf x x (defArgs st) (defBody st) (defScope st) .none kV doc pm an cdv ct) ⟨us, []⟩ = pure ([("_law_e" : Str)].zip us))
    (body : ∀ (D f : Addr) (cdv : Value) (A : Around) (outer : List Env) (s : Shared) (H : Hp) (Q : VK) (p : Addr × Obj), HotC (cxE P w K mg base N x (defScope st) f cdv A outer s H p) → ExcAt D p → sp D H Q →
      ∃ t, PSs (cxE P w K mg base N x (defScope st) f cdv A outer s H p) (defBody st) t ∧ t { nx := fun _ H' => Q .non H', rt := Q } (L2.start N [.ref p.1]) H) : CalX P w K mg base x (k + 1) sp := by
  obtain ⟨f, fd, hm, F⟩ := d
  refine ⟨f, fd, hm, F.kp, F.bindsN hb, fun D A outer s H args u Q p room hot exc pin e0 bound ru q => ?_⟩
  obtain ⟨oc, od, dV, kV, doc, pm, an, cdv, ct, osl, rfl, lk, code, _, _⟩ := F.ex
  have inK : K.In s.heap := e0.mod.kin.keeps fun b o e => (e0.bs b o e).1
  have names : ∀ y ∈ [("_law_e" : Str)].zip [u], (defScope st).names.lookup y.1 = some .local ∨ ((defScope st).names.lookup y.1 = some .cell ∧ ((cellsFrom (s.heap.objs.size + 1) (defScope st).names []).lookup y.1).isSome = true) := fun y hy =>
    (S.par y.1 (List.of_mem_zip hy).1).imp id fun z => ⟨z, PySem.W.cellsFrom_some _ _ _ (.inl z)⟩
  refine codeAny_call_function room.depth (inK _ _ lk) rfl S.co S.gen rfl (PySem.W.codeRec_of inK code) (bound _ _ _ _ (wpAny_newFunctionEnv_cells S.kind names ?_))
  rintro _ rfl s1 fresh
  refine ⟨(e0.mod.nolimit.keeps fun b o e => (e0.bs b o e).1).keeps fresh.toInCall.keep, codeAny_func ?_⟩
  have hotc : HotC (cxE P w K mg base N x (defScope st) f cdv (A.deeper (envOfC x (defScope st) s.heap.objs.size f cdv)) outer s H p) := ⟨p, hot, List.mem_cons_self⟩
  obtain ⟨t, ht, hq⟩ := body D f cdv A outer s H Q p ⟨p, hot, List.mem_cons_self⟩ exc q
  have I : Inv (cxE P w K mg base N x (defScope st) f cdv A outer s H p) [] (L2.start N [.ref p.1]) H s1 := inv_startH (us := [u]) S pin e0 rfl (.cons ru .nil) fresh
  refine wpAny_mono (ht.run [] s1 _ H _ I hq) (fun fl s' r => ?_) fun _ _ z => z
  cases fl with
  | ret u =>
    obtain ⟨v, _, H', J, rv, z⟩ := r
    exact ⟨v, H', J.os, J.bare, J.base, J.hok, rv, z⟩
  | next =>
    obtain ⟨_, H', J, z⟩ := r
    exact ⟨.non, H', J.os, J.bare, J.base, J.hok, rfl, z⟩
  | brk =>
    obtain ⟨_, _, _, z⟩ := r
    exact z.elim
  | cont =>
    obtain ⟨_, _, _, z⟩ := r
    exact z.elim
/-- x(e) in an except suite, e the name of what is handled -/
def tCalX (sp : Addr → Hp → VK → Prop) (a : Addr) (cls : Value) (d : Option Addr) (t : TA) : TE := fun σ H Q => t σ H fun vs H1 => vs = [.ref a] ∧ ∃ D, cls = .ref D ∧ d = none ∧ sp D H1 Q
theorem pe_calX {X : Cx} {x : Str} {k j : Nat} {sp : Addr → Hp → VK → Prop} {a : Addr} {oe : Obj} {pn : List (Addr × Obj)} {cls : Value} {d : Option Addr} {e : Expr} {t : TA} {q pos : Pos} (C : CalX X.prog X.w X.K X.mg X.base x k sp) (hr : Room j X.A) (hz : L2N.Zn cls d oe) (hf : ∃ vs : Array Value, oe.data = .fields vs)
    (ha : PA (X.suite a ((a, oe) :: pn)) [e] t) (hk : k ≤ j := by decide) (hg : Gl X x := by rfl) (hdb : (x == ("__debug__" : Str)) = false := by decide) (hst : starEach [e] X.env = (false, eval e X.env) :: starEach [] X.env := by rfl) (hpl : (backTo pos (starEach [] X.env)).any (·.1) = false := by rfl) :
    PE (X.suite a ((a, oe) :: pn)) (.Call (.Name x q) [e] [] pos) (tCalX sp a cls d t) := by
  obtain ⟨f, fd, hm, kp, hb, run⟩ := C.ex
  obtain ⟨ds, hd⟩ := hf
  refine ⟨fun pins s σ H Q I h => wpAny_Call_Name_kw (ld_glob (X := X.suite a ((a, oe) :: pn)) I hg hm ?_ hdb)⟩
  refine PySem.W.callWith_K (h₀ := X.base) I.ok.mod.kin kp (thn (ha.run pos pins s σ H _ I h) fun us s1 ⟨vs, H1, I1, r, ev, D, ec, edd, hsp⟩ => ⟨I1.kIn, ?_⟩) hst hpl
  subst ev ec edd
  obtain ⟨u, rfl, ru⟩ := vals1 r
  have room : RoomH k (X.suite a ((a, oe) :: pn)).A := RoomH.mono ⟨hr.dp, hr.un⟩ hk
  have hot : Hot1 (X.suite a ((a, oe) :: pn)).A (a, oe) := ⟨rfl, ds, hd, hz.2.2 ds hd⟩
  obtain ⟨z1, z2, z3, z4, z5⟩ := I1.pin (a, oe) (List.mem_append_left _ List.mem_cons_self)
  have pin : PinOk X.stack H1 s1 (a, oe) := ⟨z1, z2, fun m => (List.mem_cons.mp (I1.stkSub a m)).elim z3 z4, z5⟩
  have bound := hb s1 [u] I1.kIn rfl
  refine wpAny_call (codeAny_mono (run D _ X.stack s1 H1 ⟨[u], []⟩ u Q (a, oe) room hot ⟨hz, ds, hd⟩ pin I1.env0 bound ru hsp) fun r s' hq => ?_)
  cases r with
  | error e => exact hq.elim
  | ok fl =>
    cases fl with
    | ret u => exact I1.after hq
    | next => exact False.elim hq
    | brk => exact False.elim hq
    | cont => exact False.elim hq
/-! ### isinstance(e, C) there -/
def rIsX (K : PySem.W.Frag) (D a : Addr) : List V → Hp → VK → Prop := fun xs H Q => ∃ c, xs = [.ref a, c] ∧ ∃ (cv : Value) (b : Bool), (∀ u, RelV c u → u = cv) ∧ PySem.W.kitOne K (.ref D) cv = some b ∧ Q (.bl b) H
theorem call_isX {X : Cx} {D : Addr} {p : Addr × Obj} (C : ExcC X.K D) (hp : p ∈ X.pn) (hz : ExcAt D p) : CallR X (.builtin "isinstance") (rIsX X.K D p.1) := by
  intro pins s σ H xs us Q I r h
  obtain ⟨c, rfl, cv, b, hcv, e, q⟩ := h
  match us, r with
  | [_, _], .cons rx (.cons rt .nil) =>
    cases rx
    obtain rfl := hcv _ rt
    obtain ⟨hget, _⟩ := I.pin p (List.mem_append_left _ hp)
    obtain ⟨⟨h1, h2, _⟩, vs, hv⟩ := hz
    have J : PySem.W.InstAt s.heap p.1 p.2 D none := by
      obtain ⟨a, oc, od, oda, osl⟩ := p
      dsimp only at h1 h2 hv
      subst h1 h2 hv
      exact ⟨hget, rfl, rfl, trivial⟩
    exact PySem.W.kia_one (PySem.W.handS_kitx_exc C.hg C.hk C.hs C.hd C.ha C.hn C.ht C.hm) I.kIn J e (fun z => nomatch z) fun tk => ⟨.bl b, H, I.kept (t' := tk) fun _ _ z => z, rfl, q⟩
end One
namespace One
open PySem PySem.Spec PyProof.Rows L2
/-! ### the program's classes of refusals -/
def errNames : List Str := ["BadCode", "Full", "BadWord", "Twice", "NotThere", "NoNumber", "NoWait", "BadSign", "NoReading"]
def errAll : List Str := "CodeError" :: errNames
def excB (K : PySem.W.Frag) (D : Addr) : Bool := decide (PySem.W.findIn K (.ref D) "__getattribute__" = some (some (.builtin "BaseException.__getattribute__"))) && (decide (PySem.W.findIn K (.ref D) "__getattr__" = some none) &&
  (decide (PySem.W.subIn K (.ref D) (.type "BaseException") = some true) && (PySem.W.hasDictIn K D && (decide (PySem.W.findIn K (.ref D) "__class__" = some (some (.builtin "object.__class__"))) &&
  (decide (PySem.W.specialIn K (.builtin "object.__class__") "__get__" = some (some (.builtin "getset_descriptor.__get__"))) && (decide (PySem.W.takesIn K (.builtin "object.__class__") = some true) && decide (PySem.W.mroIn K D (.type "object") = some true)))))))
theorem excB_ok {K : PySem.W.Frag} {D : Addr} (h : excB K D = true) : ExcC K D := by
  unfold excB at h
  simp only [Bool.and_eq_true, decide_eq_true_eq] at h
  obtain ⟨h1, h2, h3, h4, h5, h6, h7, h8⟩ := h
  exact ⟨h1, h2, h3, h4, h5, h6, h7, h8⟩
def errB (K : PySem.W.Frag) : Bool := (errAll.all fun x => (He.Fa.glo x).ok K) && ((He.Fa.free "ValueError").ok K && errNames.all fun x => (He.Fa.exc x).ok K && (excB K (He.ga K x) && ((He.Fa.exm x "CodeError" true).ok K &&
  (decide (PySem.W.kitOne K (.ref (He.ga K x)) (.type "ValueError") = some true) && errNames.all fun y => decide (PySem.W.kitOne K (.ref (He.ga K x)) (.ref (He.ga K y)) = some (decide (x = y)))))))
structure Errs (K : PySem.W.Frag) (mg : Str → Option Value) : Prop where
  gl : ∀ x ∈ errAll, mg x = some (.ref (He.ga K x))
  ve : mg "ValueError" = none
  made : ∀ x ∈ errNames, (He.Fa.exc x).ok K = true
  ex : ∀ x ∈ errNames, ExcC K (He.ga K x)
  exm : ∀ x ∈ errNames, PySem.W.exmOne K (.ref (He.ga K x)) (.ref (He.ga K "CodeError")) = some true
  kve : ∀ x ∈ errNames, PySem.W.kitOne K (.ref (He.ga K x)) (.type "ValueError") = some true
  kit : ∀ x ∈ errNames, ∀ y ∈ errNames, PySem.W.kitOne K (.ref (He.ga K x)) (.ref (He.ga K y)) = some (decide (x = y))
theorem errs_ok {K : PySem.W.Frag} {h : Heap} {mg : Str → Option Value} (X : K.In h) (G : h.Ns mainGlobals mg) (c : errB K = true) : Errs K mg := by
  unfold errB at c
  simp only [Bool.and_eq_true, List.all_eq_true, decide_eq_true_eq] at c
  obtain ⟨c1, c2, c3⟩ := c
  exact ⟨fun x hx => He.glo_ok X G (c1 x hx), He.free_ok X G c2, fun x hx => (c3 x hx).1, fun x hx => excB_ok (c3 x hx).2.1, fun x hx => He.exm_ok (c3 x hx).2.2.1, fun x hx => (c3 x hx).2.2.2.1, fun x hx y hy => (c3 x hx).2.2.2.2 y hy⟩
/-- the head's hook with one fact more -/
def hookM (n : Nat) (fa : List He.Fa) (fn : List He.DefD) (ex : PySem.W.Frag → Bool) : PySem.W.Hook where
  α := He.AlD × Bool
  obs := fun s => (He.obsDG n fa fn s.heap.get?, ex (He.frG s.heap.get? (He.asD s.heap.get? n)))
  val := fun _ => (He.valD fn, true)
  says := fun _ h => ∃ K : PySem.W.Frag, K.In h ∧ He.SaysD fa fn K ∧ ex K = true
  of := fun _ _ e => ⟨_, He.frG_in, congrArg (fun z : He.AlD × Bool => z.1) e, congrArg (fun z : He.AlD × Bool => z.2) e⟩
  keeps := fun _ _ _ ⟨K, hK, c⟩ k => ⟨K, PySem.W.Frag.In.keeps hK k, c⟩
theorem obsM_eq {n : Nat} {fa : List He.Fa} {fn : List He.DefD} {ex : PySem.W.Frag → Bool} {g : Addr → Option Obj} {s : Shared} (h : ∀ a, g a = s.heap.get? a) : (He.obsDG n fa fn g, ex (He.frG g (He.asD g n))) = (hookM n fa fn ex).obs s := by
  have e : g = s.heap.get? := funext h
  rw [e]; rfl
/-- isinstance(e, y), e of the class x -/
theorem isx_own {K : PySem.W.Frag} {mg : Str → Option Value} {x y : Str} {a : Addr} {H : Hp} {Q : VK} (Er : Errs K mg) (hx : x ∈ errNames) (hy : y ∈ errNames) (q : Q (.bl (decide (x = y))) H) : rIsX K (He.ga K x) a [.ref a, .ref (He.ga K y)] H Q :=
  ⟨_, rfl, _, _, fun _ h => h, Er.kit x hx y hy, q⟩
theorem isx_ve {K : PySem.W.Frag} {mg : Str → Option Value} {x : Str} {a : Addr} {H : Hp} {Q : VK} (Er : Errs K mg) (hx : x ∈ errNames) (q : Q (.bl true) H) : rIsX K (He.ga K x) a [.ref a, .ty "ValueError"] H Q :=
  ⟨_, rfl, _, _, fun _ h => h, Er.kve x hx, q⟩
theorem pe_err {X : Cx} {x : Str} {pos : Pos} (Er : Errs X.K X.mg) (hx : x ∈ errAll) (hg : Gl X x) (hd : (x == ("__debug__" : Str)) = false := by decide) : PE X (.Name x pos) (tC (.ref (He.ga X.K x))) := pe_glob hg (Er.gl x hx) rfl hd
theorem pe_verr {X : Cx} {pos : Pos} (Er : Errs X.K X.mg) (hg : Gl X "ValueError") : PE X (.Name "ValueError" pos) (tC (.ty "ValueError")) := pe_bltn hg Er.ve (by decide +kernel) rfl (by decide) (by decide)
end One
namespace One
open PySem PySem.Spec PyProof.Rows L2
/-! ### to refuse, to let a refusal out, to meet one -/
theorem takes0N {X : Cx} : L2N.Takes X (fun _ _ _ _ => False) := fun _ _ ⟨_, _, _, _, _, _, _, _, _, _, _, _, _, _, _, _, z⟩ => z.elim
theorem ps_refuse {X : Cx} {W : WX} {x m : Str} {j : Nat} {p p2 pos pos' : Pos} (Er : Errs X.K X.mg) (hx : x ∈ errNames) (hc : X.calm = true) (tk : L2N.Takes X W) (hg : Gl X x) (hd : (x == ("__debug__" : Str)) = false := by decide) :
    PS X (.Raise (some (.Call (.Name x p) [.Constant (.str m) j p2] [] pos)) none pos') (fun _ σ H => W (.ref (He.ga X.K x)) none σ H) := by
  obtain ⟨z1, z2, z3, z4⟩ := He.exc_ok (Er.made x hx)
  exact L2N.ps_raise hc tk (L2N.pmk_own PySem.F.excBase_ValueError z1 (Er.gl x (List.mem_cons_of_mem _ hx)) z2 (raises_own z3 z4) hg hd)
section
variable {X : Cx} {j k : Nat} {ps : List Str} {sp : Sp} {W : WX} {x : Str} {p pos : Pos} {e : Expr} {es : List Expr} {t : TA}
/-- a call of a def that may refuse -/
theorem pe_calS (C : Cal X.prog X.w X.K X.mg X.base (L2N.CX X.prog X.w) x k ps sp) (hr : Room j X.A) (tk : L2N.Takes X W) (ha : PA X (e :: es) t) (hk : k ≤ j := by decide) (hg : Gl X x := by rfl)
    (hd : (x == ("__debug__" : Str)) = false := by decide) (he : starEach (e :: es) X.env = (false, eval e X.env) :: starEach es X.env := by rfl) (hpl : (backTo pos (starEach es X.env)).any (·.1) = false := by rfl) :
    PE X (.Call (.Name x p) (e :: es) [] pos) (tCallS sp (WE W) t) := by
  obtain ⟨f, fd, hm, hkp, hb, F⟩ := C.ex
  exact pe_callS F (hr.mono hk) hg hm hkp hb (fun σ => L2N.passAt tk σ) ha hd he hpl
end
/-- a refusal met by except CodeError as e -/
theorem met {K : PySem.W.Frag} {mg : Str → Option Value} {x : Str} {i : Nat} {ts : Addr → Value → Option Addr → TS} {D : Ends} {σ : L2.St} {H : Hp} (Er : Errs K mg) (hx : x ∈ errNames)
    (h : ∀ a, H a = none → ts a (.ref (He.ga K x)) none { nx := fun σ' H' => D.nx (σ'.set i none) H', rt := D.rt, bk := fun σ' H' => D.bk (σ'.set i none) H', ct := fun σ' H' => D.ct (σ'.set i none) H' } (σ.set i (some (.ref a))) H) :
    wAs K (.ref (He.ga K "CodeError")) i ts (fun _ _ _ _ => False) D (.ref (He.ga K x)) none σ H := ⟨true, Er.exm x hx, fun _ a ha => h a ha, fun z => nomatch z⟩
end One
namespace One
open PySem PySem.Spec PyProof.Rows L2 L2H
section
variable {X : Cx} {s : Shared} {H : Hp} {scope : Scope} {ce : Env} {fp : List Addr}
theorem pg_tupB {es : List Expr} {k : Nat} {t : TGs} {n : Nat} {pos : Pos} (hc : HotC X) (h : PGs (blkP X s H scope ce fp) es t) (hn : (assignEach es (blkP X s H scope ce fp).env).length = n := by rfl) (hst : (assignEach es (blkP X s H scope ce fp).env).findIdx? (·.1) = none := by rfl) :
    PG (blkP X s H scope ce fp) (.Tuple es k pos) (gTup X.K n t) := pg_tupH (X := blkP X s H scope ce fp) hc h hn hst
theorem call_isB {D : Addr} {p : Addr × Obj} (C : ExcC X.K D) (hp : p ∈ X.pn) (hz : ExcAt D p) : CallR (blkP X s H scope ce fp) (.builtin "isinstance") (rIsX X.K D p.1) := call_isX (X := blkP X s H scope ce fp) C hp hz
end
end One


set_option Elab.async false
set_option linter.all false
set_option maxRecDepth 100000
set_option maxHeartbeats 400000
set_option pp.maxSteps 700
namespace One
open PySem PySem.Spec PyProof.Rows L2
local macro_rules | `(tactic| fail "as") => `(tactic| with_reducible assumption)
local macro_rules | `(tactic| fail "same") => `(tactic| first
  | with_reducible exact Same.refl _
  | fail "as"
  | ((with_reducible show Same _ (upd _ _ _)); first
    | exact Same.trans (by fail "same") (new (by fail "as"))
    | exact mutd (by fail "same") (by fail "fr"))
  | ((with_reducible refine Same.trans ?_ (by fail "as")); fail "same"))
local macro_rules | `(tactic| fail "fr") => `(tactic| first
  | fail "as"
  | ((with_reducible refine Same.free ?_ (by fail "as")); fail "same"))
local macro_rules | `(tactic| fail "look") => `(tactic| first
  | ((with_reducible show upd _ _ _ _ = _); first
    | with_reducible exact upd_same
    | with_reducible exact upd_nil
    | with_reducible exact upd_snoc
    | ((with_reducible refine upd_at (by fail "as") ?_); fail "look")
    | ((with_reducible refine new_at (by fail "fr") ?_); fail "look"))
  | fail "as"
  | ((with_reducible refine same_at (by fail "as") ?_); fail "look")
  | ((with_reducible refine same_at ?_ (by fail "as")); fail "same"))
local macro_rules | `(tactic| fail "ne") => `(tactic| (refine ne_free (by fail "as") (by fail "look")))
local macro_rules | `(tactic| fail "seq") => `(tactic| first
  | fail "as"
  | ((with_reducible show SqL _ _ _ _); with_reducible exact SqL.of (by fail "look"))
  | ((with_reducible show SqT _ _ _ _); with_reducible exact SqT.of (by fail "look"))
  | ((with_reducible refine Same.seq ?_ (by fail "as")); fail "same")
  | ((with_reducible refine sqT ?_ (by fail "as")); fail "same"))
local macro_rules | `(tactic| fail "ins") => `(tactic| ((with_reducible show _ = some (HO.ins _ _ _)); fail "look"))
local macro_rules | `(tactic| fail "sq") => `(tactic| first
  | ((with_reducible show Rd _ _ _); first | exact .inl (by fail "look") | exact .inr ⟨_, by fail "look"⟩)
  | ((with_reducible show SqL _ _ _ _); fail "seq")
  | ((with_reducible show SqT _ _ _ _); fail "seq")
  | ((with_reducible show _ = some _); fail "look"))
local macro_rules | `(tactic| fail "le") => `(tactic| first
  | fail "as"
  | with_reducible exact sz (by simp)
  | ((try simp only [List.length_append, List.length_cons, List.length_nil, List.length_map, List.length_replicate, List.length_set]); omega)
  | exact Int.emod_nonneg _ (by omega)
  | decide)
local macro_rules | `(tactic| fail "lf") => `(tactic| first
  | fail "as"
  | ((with_reducible show _ = _); exact rfl)
  | ((with_reducible show _ ≤ _); fail "le")
  | ((with_reducible show _ < _); first | decide | fail "as" | omega)
  | fail "sq"
  | ((with_reducible show CDiv _ _); exact ⟨by decide, by decide⟩)
  | ((with_reducible show CMul _ _); first | exact .inl ⟨by decide, by decide⟩ | exact .inr ⟨by decide, by decide⟩ | exact .inl ⟨by omega, by omega⟩ | exact .inr ⟨by omega, by omega⟩)
  | exact ⟨_, rfl⟩
  | exact ⟨_, by fail "sq"⟩
  | exact tyL (by fail "seq")
  | exact tyD (by fail "look")
  | (refine ⟨?_, ?_, ?_, ?_⟩ <;> omega)
  | (show (0 : Int) < _; first | decide | omega)
  | (show (_ : Int) ≠ 0; first | decide | omega))
local macro_rules | `(tactic| fail "dp") => `(tactic| first
  | exact .str _ | exact .int _ | exact .bl _ | exact .non
  | exact .tup (by fail "seq") (by fail "dps")
  | exact .lst (by fail "seq") (by fail "dps"))
local macro_rules | `(tactic| fail "dps") => `(tactic| first
  | fail "as"
  | with_reducible exact dpAll_strs _
  | with_reducible exact dpAll_ints _
  | ((with_reducible show DpAll _ _ (_ :: _) _); exact .cons (by fail "dp") (by fail "dps"))
  | exact .nil)
local macro_rules | `(tactic| fail "dpS") => `(tactic| ((with_reducible show Dp _ _ _ _); fail "dp"))
local macro_rules | `(tactic| fail "ga") => `(tactic| ((with_reducible show _ = some _); fail "as"))
local macro_rules | `(tactic| fail "gE") => `(tactic| first
  | with_reducible refine ⟨_, _, _, _, _, rfl, by fail "ins", by fail "as", by fail "as", rfl, ?_⟩
  | with_reducible refine ⟨_, _, _, _, rfl, by fail "ins", by fail "as", by fail "as", Nat.le_of_ble_eq_true rfl, ?_⟩
  | with_reducible refine ⟨_, _, _, rfl, by fail "ins", rfl, ?_⟩
  | with_reducible refine ⟨_, by fail "dpS", ?_⟩
  | refine ⟨_, kI _, ?_⟩
  | refine ⟨_, kS _, ?_⟩
  | refine ⟨_, by fail "ga", ?_⟩
  | refine ⟨_, rfl, ?_⟩
  | refine ⟨_, _, rfl, rfl, ?_⟩
  | refine ⟨_, _, rfl, ?_⟩
  | refine ⟨_, _, _, rfl, ?_⟩
  | refine ⟨_, _, _, _, rfl, ?_⟩
  | refine ⟨_, rfl, rfl, ?_⟩
  | refine ⟨_, _, _, rfl, rfl, ?_⟩
  | refine ⟨_, by fail "sq", ?_⟩
  | refine ⟨_, _, rfl, by fail "sq", rfl, ?_⟩
  | refine ⟨_, TyW.int _, ?_⟩
  | refine ⟨_, TyW.str _, ?_⟩
  | refine ⟨_, TyW.non, ?_⟩
  | refine ⟨_, TyW.bl _, ?_⟩
  | refine ⟨_, TyW.tup (by fail "look"), ?_⟩
  | refine ⟨_, TyW.lst (by fail "look"), ?_⟩
  | refine ⟨_, TyW.dict (by fail "look"), ?_⟩)
local macro_rules | `(tactic| fail "g1") => `(tactic| first
  | (refine (show ∃ _, _ from ?_); fail "gE")
  | (refine (show _ ∧ _ from ?_); refine And.intro (by fail "lf") ?_))
local macro_rules | `(tactic| fail "go") => `(tactic| repeat (fail "g1"))
local macro_rules | `(tactic| fail "gi") => `(tactic| repeat (first
  | fail "g1"
  | refine (show Ret _ _ _ from fun H' s' => ?_)
  | refine (show RetL _ _ _ from fun p H' s' np hp => ?_)
  | refine (show RetT _ _ _ from fun p H' s' np hp => ?_)
  | refine (show RetD _ _ _ from fun p H' s' np hp => ?_)
  | refine (show ∀ p : Addr, _ = none → _ from fun p hp => ?_)))
def top (i : Nat) : Stmt := PySem.Challenge.pw_onereading_k04_partings_told.main.body.getD i (.Pass ⟨0, 0, 0, 0⟩)
section
variable {P : Program} {w : World} {K : PySem.W.Frag} {mg : Str → Option Value} {base : Heap} {C : Addr}

/-! ### which refusal it was -/
def labels : List (Wd × Str) := [([99, 111, 100, 101], "BadCode"), ([102, 117, 108, 108], "Full"), ([119, 111, 114, 100], "BadWord"), ([116, 119, 105, 99, 101], "Twice"), ([116, 104, 101, 114, 101], "NotThere"), ([110, 117, 109, 98, 101, 114], "NoNumber"), ([119, 97, 105, 116], "NoWait"), ([115, 105, 103, 110], "BadSign"), ([114, 101, 97, 100, 105, 110, 103], "NoReading")]
def labelOf (x : Str) : List Wd := (labels.filter fun q => decide (x = q.2)).map (·.1)
def LabAt (x : Str) (H : Hp) (v : V) (q : Wd × Str) : Prop := ∃ t, v = .ref t ∧ H t = some (.tup [sv q.1, .bl (decide (x = q.2))])
theorem LabAt.mono {x : Str} {H H' : Hp} {v : V} {q : Wd × Str} (h : ∀ t u, H t = some (.tup u) → H' t = some (.tup u)) (a : LabAt x H v q) : LabAt x H' v q := let ⟨t, e, z⟩ := a; ⟨t, e, h _ _ z⟩
def labPart (x : Str) (i : Nat) : List V := ((labels.take i).filter fun q => decide (x = q.2)).map fun q => sv q.1
theorem lc_lab {K : PySem.W.Frag} {g : TG} {tt : TT} {te : TE} {vs : List Nat} {σ : L2.St} {x : Str} {H H1 : Hp} {a D : Addr} {xs : List V} {Qd : Hp → Prop} (sH : Same H H1) (hl : H1 a = some (.lst xs)) (hp : Paired (LabAt x H1) xs labels) (nD : H1 D = none)
    (hs : ∀ (i : Nat) (q : Wd × Str) (t : Addr) (H' : Hp), labels[i]? = some q → H' t = some (.tup [sv q.1, .bl (decide (x = q.2))]) → Same H1 H' → H' D = some (.lst (labPart x i)) → g (.ref t) (wipe σ vs) H' fun σ2 H2 => wipe σ2 vs = wipe σ vs ∧ tt σ2 H2 fun b H3 =>
      if b = true then te σ2 H3 fun y H4 => ∃ acc, H4 D = some (.lst acc) ∧ acc.length < sizeLine ∧ (Same H1 (L2.upd H4 D (.lst (acc ++ [y]))) ∧ L2.upd H4 D (.lst (acc ++ [y])) D = some (.lst (labPart x (i + 1)))) else Same H1 H3 ∧ H3 D = some (.lst (labPart x (i + 1))))
    (hd : ∀ H', H D = none → Same H H' → H' D = some (.lst ((labelOf x).map sv)) → Qd H') :
    ∃ W : Nat → Nat → Hp → Prop, (∃ m, W 0 m (L2.upd H1 D (.lst []))) ∧ ∀ i m H, W i m H →
      ((Itl K a).stop i H ∧ Qd H) ∨ ((Itl K a).go i H ∧ ∃ Nx : Hp → Prop, (∀ H', Nx H' → ∃ m', m' < m ∧ W (i + 1) m' H') ∧ ∀ x H', (Itl K a).yld i H x H' → g x (wipe σ vs) H' fun σ2 H2 => wipe σ2 vs = wipe σ vs ∧ tt σ2 H2 fun b H3 =>
        if b = true then te σ2 H3 fun y H4 => ∃ acc, H4 D = some (.lst acc) ∧ acc.length < sizeLine ∧ Nx (L2.upd H4 D (.lst (acc ++ [y]))) else Nx H3) := by
  refine lc_list (xs := xs) (fun i H' => Same H1 H' ∧ H' D = some (.lst (labPart x i))) ⟨new nD, L2.upd_same⟩ (fun i H' _ h => SqL.of (h.1 _ _ hl)) (fun i v H' hv h => ?_) (fun H' h => ?_)
  · obtain ⟨q, hq, t, rfl, ht⟩ := Paired.get hp i v hv
    exact hs i q t H' hq (h.1 _ _ ht) h.1 h.2
  · refine hd H' (sH.free nD) (sH.trans h.1) ?_
    rw [h.2, Paired.length hp]
    unfold labPart labelOf
    rw [List.take_length, List.map_map]; rfl
theorem labPart_snoc (x : Str) {i : Nat} {q : Wd × Str} (h : labels[i]? = some q) : labPart x (i + 1) = labPart x i ++ if decide (x = q.2) = true then [sv q.1] else [] := by
  unfold labPart
  rw [List.take_add_one, h]
  show ((List.take i labels ++ [q]).filter _).map _ = _
  rw [List.filter_append, List.map_append, List.filter_cons]
  by_cases e : decide (x = q.2) = true
  · rw [if_pos e, if_pos e]; rfl
  · rw [if_neg e, if_neg e]; rfl
theorem labPart_len (x : Str) (i : Nat) : (labPart x i).length < sizeLine := by
  refine szl ?_
  unfold labPart
  rw [List.length_map]
  have h1 := List.length_filter_le (fun q : Wd × Str => decide (x = q.2)) (labels.take i)
  have h2 : (labels.take i).length ≤ 9 := by rw [List.length_take]; exact Nat.min_le_right _ _
  omega
abbrev s_law_words_of : Stmt := top 34
theorem sc_law_words_of : FnScope ["_law_e", "_law_some", "_law_word_here", "_law_fits"] ["_law_e"] (defScope s_law_words_of) := ⟨rfl, rfl, rfl, by decide +kernel, rfl, by decide +kernel, by decide +kernel⟩
def sp_law_words_of (K : PySem.W.Frag) : Addr → Hp → VK → Prop := fun D H Q => ∃ x ∈ errNames, D = He.ga K x ∧ RetL H Q ((labelOf x).map sv)
theorem ok_law_words_of (B : Bi mg) (Er : Errs K mg) (D : Def K mg "_law_words_of" s_law_words_of) : CalX P w K mg base "_law_words_of" 1 (sp_law_words_of K) := by
  have nd := sc_law_words_of.nd
  refine Def.calX D sc_law_words_of (fun _ _ _ _ _ _ us hl => match us, hl with | [_], _ => rfl) (fun D f cdv A outer s H Q p hc hz h => ?_)
  · obtain ⟨x, hx, rfl, q⟩ := h
    have Ex := Er.ex x hx
    refine ⟨_, (pss_cons (ps_set (i := 1) nd rfl (.inl rfl) (pe_lst (pa_cons (pe_tup (pa_cons (pe_w [99, 111, 100, 101] rfl) (pa_cons (pe_callB (call_isX Ex (by exact List.mem_cons_self) hz) (by rfl) B.isinstance (by decide +kernel) (pa_cons (pv 0) (pa_cons (pe_err Er (by decide +kernel) rfl) pa_nil))) pa_nil))) (pa_cons (pe_tup (pa_cons (pe_w [102, 117, 108, 108] rfl) (pa_cons (pe_callB (call_isX Ex (by exact List.mem_cons_self) hz) (by rfl) B.isinstance (by decide +kernel) (pa_cons (pv 0) (pa_cons (pe_err Er (by decide +kernel) rfl) pa_nil))) pa_nil))) (pa_cons (pe_tup (pa_cons (pe_w [119, 111, 114, 100] rfl) (pa_cons (pe_callB (call_isX Ex (by exact List.mem_cons_self) hz) (by rfl) B.isinstance (by decide +kernel) (pa_cons (pv 0) (pa_cons (pe_err Er (by decide +kernel) rfl) pa_nil))) pa_nil))) pa_nil)))))
      (pss_cons (ps_set (i := 1) nd rfl (.inl rfl) (pe_op op_catl (pv 1) (pe_lst (pa_cons (pe_tup (pa_cons (pe_w [116, 119, 105, 99, 101] rfl) (pa_cons (pe_callB (call_isX Ex (by exact List.mem_cons_self) hz) (by rfl) B.isinstance (by decide +kernel) (pa_cons (pv 0) (pa_cons (pe_err Er (by decide +kernel) rfl) pa_nil))) pa_nil))) (pa_cons (pe_tup (pa_cons (pe_w [116, 104, 101, 114, 101] rfl) (pa_cons (pe_callB (call_isX Ex (by exact List.mem_cons_self) hz) (by rfl) B.isinstance (by decide +kernel) (pa_cons (pv 0) (pa_cons (pe_err Er (by decide +kernel) rfl) pa_nil))) pa_nil))) pa_nil)))))
      (pss_cons (ps_set (i := 1) nd rfl (.inl rfl) (pe_op op_catl (pv 1) (pe_lst (pa_cons (pe_tup (pa_cons (pe_w [110, 117, 109, 98, 101, 114] rfl) (pa_cons (pe_callB (call_isX Ex (by exact List.mem_cons_self) hz) (by rfl) B.isinstance (by decide +kernel) (pa_cons (pv 0) (pa_cons (pe_err Er (by decide +kernel) rfl) pa_nil))) pa_nil))) (pa_cons (pe_tup (pa_cons (pe_w [119, 97, 105, 116] rfl) (pa_cons (pe_callB (call_isX Ex (by exact List.mem_cons_self) hz) (by rfl) B.isinstance (by decide +kernel) (pa_cons (pv 0) (pa_cons (pe_err Er (by decide +kernel) rfl) pa_nil))) pa_nil))) pa_nil)))))
      (pss_cons (ps_set (i := 1) nd rfl (.inl rfl) (pe_op op_catl (pv 1) (pe_lst (pa_cons (pe_tup (pa_cons (pe_w [115, 105, 103, 110] rfl) (pa_cons (pe_callB (call_isX Ex (by exact List.mem_cons_self) hz) (by rfl) B.isinstance (by decide +kernel) (pa_cons (pv 0) (pa_cons (pe_err Er (by decide +kernel) rfl) pa_nil))) pa_nil))) (pa_cons (pe_tup (pa_cons (pe_w [114, 101, 97, 100, 105, 110, 103] rfl) (pa_cons (pe_callB (call_isX Ex (by exact List.mem_cons_self) hz) (by rfl) B.isinstance (by decide +kernel) (pa_cons (pv 0) (pa_cons (pe_err Er (by decide +kernel) rfl) pa_nil))) pa_nil))) pa_nil)))))
      (pss_one (ps_ret (pe_lcH (own := [("_law_word_here", 2), ("_law_fits", 3)]) (g := _) hc nd (pi_listH (pv 1)) (blkOk_by (own := [("_law_word_here", 2), ("_law_fits", 3)]) (N := ["_law_e", "_law_some", "_law_word_here", "_law_fits"]) (sc := defScope s_law_words_of) (by decide +kernel)) (fun _ _ _ _ _ => (pg_tupB (n := 2) hc (pgs_cons (pg_name (i := 2) nd rfl (.inl rfl)) (pgs_cons (pg_name (i := 3) nd rfl (.inl rfl)) pgs_nil)))) (fun _ _ _ _ _ => (pts_one (PW.pt (pw_and (pt_val (pv 3)) (pw_and1 (pt_val (pe_callB (call_isB Ex (by exact List.mem_cons_self) hz) (by rfl) B.isinstance (by decide +kernel) (pa_cons (pv 0) (pa_cons (pe_verr Er rfl) pa_nil))))))))) (fun _ _ _ _ _ => (pv 2))))))))), ?_⟩
    dsimp only [cxE, L2H.cxH, cxOf]
    fail "gi"
    refine ⟨_, _, fun _ h => h, Er.kit x hx "BadCode" (by decide +kernel), ?_⟩
    fail "gi"
    refine ⟨_, _, fun _ h => h, Er.kit x hx "Full" (by decide +kernel), ?_⟩
    fail "gi"
    refine ⟨_, _, fun _ h => h, Er.kit x hx "BadWord" (by decide +kernel), ?_⟩
    fail "gi"
    refine ⟨_, _, fun _ h => h, Er.kit x hx "Twice" (by decide +kernel), ?_⟩
    fail "gi"
    refine ⟨_, _, fun _ h => h, Er.kit x hx "NotThere" (by decide +kernel), ?_⟩
    fail "gi"
    refine ⟨_, _, fun _ h => h, Er.kit x hx "NoNumber" (by decide +kernel), ?_⟩
    fail "gi"
    refine ⟨_, _, fun _ h => h, Er.kit x hx "NoWait" (by decide +kernel), ?_⟩
    fail "gi"
    refine ⟨_, _, fun _ h => h, Er.kit x hx "BadSign" (by decide +kernel), ?_⟩
    fail "gi"
    refine ⟨_, _, fun _ h => h, Er.kit x hx "NoReading" (by decide +kernel), ?_⟩
    fail "gi"
    rename_i t1 n_t1 t2 n_t2 t3 n_t3 l3 n_l3 t4 n_t4 t5 n_t5 l5 n_l5 l6 n_l6 t6 n_t6 t7 n_t7 l7 n_l7 l8 n_l8 t8 n_t8 t9 n_t9 l9 n_l9 l10 n_l10 D n_D
    refine lc_lab (x := x) (H := H) (xs := [.ref t1, .ref t2, .ref t3, .ref t4, .ref t5, .ref t6, .ref t7, .ref t8, .ref t9]) (by fail "same") L2.upd_same (.cons ⟨t1, rfl, by fail "look"⟩ (.cons ⟨t2, rfl, by fail "look"⟩ (.cons ⟨t3, rfl, by fail "look"⟩ (.cons ⟨t4, rfl, by fail "look"⟩ (.cons ⟨t5, rfl, by fail "look"⟩ (.cons ⟨t6, rfl, by fail "look"⟩ (.cons ⟨t7, rfl, by fail "look"⟩ (.cons ⟨t8, rfl, by fail "look"⟩ (.cons ⟨t9, rfl, by fail "look"⟩ (.nil)))))))))) n_D (fun i q t H' hq ht s1 hD => ?_) fun H' nD s1 hD => ?_
    · have pl := labPart_len x i
      have ps := labPart_snoc x hq
      fail "gi"
      refine (show if decide (x = q.2) = true then _ else _ from ?_)
      by_cases e : decide (x = q.2) = true
      · rw [if_pos e] at ps ⊢
        fail "gi"
        refine ⟨_, _, fun _ h => h, Er.kve x hx, ?_⟩
        fail "gi"
        exact ⟨mutd s1 n_D, by rw [L2.upd_same, ps]⟩
      · rw [if_neg e] at ps ⊢
        rw [List.append_nil] at ps
        rw [ps]
        exact ⟨s1, hD⟩
    · exact q _ _ s1 nD hD

def cell (ns : List Int) (k : Int) : Int := ns.getD k.toNat 0
abbrev s_law_at : Stmt := top 23
theorem sc_law_at : FnScope ["_law_script", "_law_k"] ["_law_script", "_law_k"] (defScope s_law_at) := ⟨rfl, rfl, rfl, by decide +kernel, rfl, by decide +kernel, by decide +kernel⟩
def sp_law_at (K : PySem.W.Frag) : Sp := fun vs H Q _ => ∃ (p : Addr) (k : Int), vs = [.ref p, .int k] ∧ ∃ ns : List Int, SqL K H p (ns.map V.int) ∧ 0 ≤ k ∧ Q (.int (cell ns k)) H
theorem ok_law_at (B : Bi mg) (D : Def K mg "_law_at" s_law_at) : Cal P w K mg base CX0 "_law_at" 1 ["_law_script", "_law_k"] (sp_law_at K) := by
  have nd := sc_law_at.nd
  refine D.cal sc_law_at (fun _ _ _ _ _ _ us hl => match us, hl with | [_, _], _ => rfl) (fun vs H Q E h => ?_) (fun f cdv A outer s H vs Q E hr h => ?_)
  · obtain ⟨_, _, rfl, _⟩ := h
    rfl
  · obtain ⟨p, k, rfl, ns, hS, h0, q⟩ := h
    refine ⟨_, PSs.nox (pss_cons (ps_if (pt_cmpR op_lt (pv 1) (pe_callB (r := rLenL K) call_lenl (by rfl) B.len PySem.boot_len (pa_cons (pv 0) pa_nil)) (nomark _))
        (pss_one (ps_ret (pe_ix (r := rIxLn K) ix_l (pv 0) (pv 1) (fun _ _ => rfl))))
        pss_nil)
      (pss_one (ps_ret pe_int))), ?_⟩
    try dsimp only [cxOf, Cx.nox, Cx.wish]
    fail "go"
    refine itd (fun e => ?_) fun e => ?_
    · rw [List.length_map] at e
      have h1 : k.toNat < ns.length := by omega
      fail "go"
      refine ⟨.int (cell ns k), ?_, q⟩
      rw [List.getElem?_map, List.getElem?_eq_getElem h1]
      unfold cell
      rw [List.getD_eq_getElem?_getD, List.getElem?_eq_getElem h1]
      rfl
    · rw [List.length_map] at e
      have : cell ns k = 0 := by
        unfold cell
        rw [List.getD_eq_getElem?_getD, List.getElem?_eq_none (by omega)]
        rfl
      rw [this] at q
      exact q
def mixed (c k : Int) : Int := (c + 7919 * k + 3) * 48271 % 2147483647 * ((c + 7919 * k + 3) * 48271 % 2147483647) % 2147483629
theorem mixed_nn (c k : Int) : 0 ≤ mixed c k := Int.emod_nonneg _ (by decide)
abbrev s_law_mixed : Stmt := top 24
theorem sc_law_mixed : FnScope ["_law_cell", "_law_k", "_law_number_here"] ["_law_cell", "_law_k"] (defScope s_law_mixed) := ⟨rfl, rfl, rfl, by decide +kernel, rfl, by decide +kernel, by decide +kernel⟩
def sp_law_mixed : Sp := fun vs H Q _ => ∃ c k : Int, vs = [.int c, .int k] ∧ Q (.int (mixed c k)) H
theorem ok_law_mixed (B : Bi mg) (D : Def K mg "_law_mixed" s_law_mixed) : Cal P w K mg base CX0 "_law_mixed" 1 ["_law_cell", "_law_k"] sp_law_mixed := by
  have nd := sc_law_mixed.nd
  refine D.cal sc_law_mixed (fun _ _ _ _ _ _ us hl => match us, hl with | [_, _], _ => rfl) (fun vs H Q E h => ?_) (fun f cdv A outer s H vs Q E hr h => ?_)
  · obtain ⟨_, _, rfl, _⟩ := h
    rfl
  · obtain ⟨c, k, rfl, q⟩ := h
    refine ⟨_, PSs.nox (pss_cons (ps_set (i := 2) nd rfl (.inl rfl) (pe_op op_mod (pe_op op_mul (pe_op op_add (pe_op op_add (pv 0) (pe_op op_mul pe_int (pv 1))) pe_int) pe_int) pe_int))
      (pss_one (ps_ret (pe_op op_mod (pe_op op_mul (pv 2) (pv 2)) pe_int)))), ?_⟩
    try dsimp only [cxOf, Cx.nox, Cx.wish]
    have h1 := Int.emod_nonneg ((c + 7919 * k + 3) * 48271) (show (2147483647 : Int) ≠ 0 by decide)
    have h2 := Int.emod_lt_of_pos ((c + 7919 * k + 3) * 48271) (show (0 : Int) < 2147483647 by decide)
    fail "go"
    exact q
abbrev s_law_signs : Stmt := top 25
theorem sc_law_signs : FnScope ["_law_cell", "_law_some", "_law_many", "_law_k"] ["_law_cell"] (defScope s_law_signs) := ⟨rfl, rfl, rfl, by decide +kernel, rfl, by decide +kernel, by decide +kernel⟩
def sp_law_signs : Sp := fun vs H Q _ => ∃ c : Int, vs = [.int c] ∧ ∀ a : Wd, a ≠ [] → a.length ≤ 26 → Abc a → Ret H Q (sv a)
theorem ok_law_signs (B : Bi mg) (D : Def K mg "_law_signs" s_law_signs) : Cal P w K mg base CX0 "_law_signs" 1 ["_law_cell"] sp_law_signs := by
  have nd := sc_law_signs.nd
  refine D.cal sc_law_signs (fun _ _ _ _ _ _ us hl => match us, hl with | [_], _ => rfl) (fun vs H Q E h => ?_) (fun f cdv A outer s H vs Q E hr h => ?_)
  · obtain ⟨_, rfl, _⟩ := h
    rfl
  · obtain ⟨c, rfl, q⟩ := h
    refine ⟨_, PSs.nox (pss_cons (ps_set (i := 1) nd rfl (.inr rfl) (pe_w ABC rfl))
      (pss_cons (ps_set (i := 2) nd rfl (.inl rfl) (pe_ix (r := rIxLn K) ix_l (pe_lst (pa_cons pe_int (pa_cons pe_int (pa_cons pe_int (pa_cons pe_int (pa_cons pe_int (pa_cons pe_int pa_nil))))))) (pe_op op_mod (pv 0) pe_int) (fun _ _ => rfl)))
      (pss_one (ps_ret (pe_m1 (r := rJoW K) PySem.F.slot_str_join PySem.F.type_str_join mt_jow (pe_w [] rfl) (pe_lc (own := [("_law_k", 3)]) (g := gName 3) (tt := tYes) rfl nd (pi_range1 (by rfl) B.range (pa_cons (pv 2) pa_nil)) (blkOk_by (own := [("_law_k", 3)]) (N := ["_law_cell", "_law_some", "_law_many", "_law_k"]) (sc := defScope s_law_signs) (by decide +kernel)) (fun _ _ _ _ _ => (pg_name (i := 3) nd rfl (.inl rfl))) (fun _ _ _ _ _ => pts_nil) (fun _ _ _ _ _ => (pe_ix ix_w (pv 1) (pe_op op_mod (pe_op op_add (pe_op op_fdiv (pv 0) pe_int) (pe_op op_mul (pe_op op_add pe_int (pe_op op_mod (pe_op op_fdiv (pv 0) pe_int) pe_int)) (pv 3))) pe_int) (fun _ _ => rfl))))))))), ?_⟩
    try dsimp only [cxOf, Cx.nox, Cx.wish]
    fail "gi"
    rename_i p hp
    obtain ⟨v, hv, ev⟩ := pickm [V.int 2, V.int 1, V.int 2, V.int 3, V.int 2, V.int 5] c (by simp)
    obtain ⟨m, rfl, m0, m1⟩ : ∃ m : Nat, v = .int (m : Int) ∧ 1 ≤ m ∧ m ≤ 26 := by
      simp only [List.mem_cons, List.not_mem_nil, or_false] at hv
      rcases hv with rfl | rfl | rfl | rfl | rfl | rfl
      · exact ⟨2, rfl, by decide, by decide⟩
      · exact ⟨1, rfl, by decide, by decide⟩
      · exact ⟨2, rfl, by decide, by decide⟩
      · exact ⟨3, rfl, by decide, by decide⟩
      · exact ⟨2, rfl, by decide, by decide⟩
      · exact ⟨5, rfl, by decide, by decide⟩
    refine ⟨_, ev, ?_⟩
    fail "go"
    refine fun D hD => ?_
    have hn : ∀ i : Nat, ∃ x : Nat, x ∈ ABC ∧ ABC[((c / 6 + (1 + c / 156 % 25) * (0 + (i : Int))) % 26).toNat]? = some x := fun i => pickm ABC _ (by decide)
    refine lc_rng (lo := 0) (n := m) (j := 3) (fun i => sv [(hn i).choose]) hD (by omega) (fun i hi H1 e1 Q1 q1 => ?_) (fun H1 e1 h1 => ?_)
    · have hc0 := Int.emod_nonneg (c / 156) (show (25 : Int) ≠ 0 by decide)
      have hc1 := Int.emod_lt_of_pos (c / 156) (show (0 : Int) < 25 by decide)
      fail "go"
      exact ⟨_, (hn i).choose_spec.2, q1 _ (Same.refl _)⟩
    · fail "go"
      have ef := flat1 (fun i => (hn i).choose) (List.range m)
      have el : ((List.range m).map fun i => (hn i).choose).length = m := by rw [List.length_map, List.length_range]
      refine ⟨(List.range m).map fun i => [(hn i).choose], SqL.of (by rw [h1, List.map_map]; rfl), by rw [ef]; omega, ?_⟩
      rw [ef]
      refine q _ (fun z => ?_) (by omega) (fun x hx => ?_) _ (by fail "same")
      · rw [z] at el; simp at el; omega
      · obtain ⟨i, _, rfl⟩ := List.mem_map.mp hx
        exact (hn i).choose_spec.1
abbrev s_law_word : Stmt := top 26
theorem sc_law_word : FnScope ["_law_cell", "_law_signs_here", "_law_size", "_law_j"] ["_law_cell", "_law_signs_here"] (defScope s_law_word) := ⟨rfl, rfl, rfl, by decide +kernel, rfl, by decide +kernel, by decide +kernel⟩
def sp_law_word : Sp := fun vs H Q _ => ∃ (c : Int) (g : Wd), vs = [.int c, sv g] ∧ g ≠ [] ∧ g.length ≤ 26 ∧ Abc g ∧ ∀ a : Wd, Word a → Ret H Q (sv a)
theorem ok_law_word (B : Bi mg) (D : Def K mg "_law_word" s_law_word) (c_law_mixed : Cal P w K mg base CX0 "_law_mixed" 1 ["_law_cell", "_law_k"] sp_law_mixed) : Cal P w K mg base CX0 "_law_word" 2 ["_law_cell", "_law_signs_here"] sp_law_word := by
  have nd := sc_law_word.nd
  refine D.cal sc_law_word (fun _ _ _ _ _ _ us hl => match us, hl with | [_, _], _ => rfl) (fun vs H Q E h => ?_) (fun f cdv A outer s H vs Q E hr h => ?_)
  · obtain ⟨_, _, rfl, _⟩ := h
    rfl
  · obtain ⟨c, g, rfl, hg, hl, hA, q⟩ := h
    refine ⟨_, PSs.nox (pss_cons (ps_set (i := 2) nd rfl (.inl rfl) (pe_ix (r := rIxLn K) ix_l (pe_lst (pa_cons pe_int (pa_cons pe_int (pa_cons pe_int (pa_cons pe_int (pa_cons pe_int (pa_cons (pe_op op_add pe_int (pe_op op_mod (pe_op op_fdiv (pv 0) pe_int) pe_int)) (pa_cons pe_int (pa_cons pe_int pa_nil))))))))) (pe_op op_mod (pv 0) pe_int) (fun _ _ => rfl)))
      (pss_one (ps_ret (pe_m1 (r := rJoW K) PySem.F.slot_str_join PySem.F.type_str_join mt_jow (pe_w [] rfl) (pe_lc (own := [("_law_j", 3)]) (g := gName 3) (tt := tYes) rfl nd (pi_range1 (by rfl) B.range (pa_cons (pv 2) pa_nil)) (blkOk_by (own := [("_law_j", 3)]) (N := ["_law_cell", "_law_signs_here", "_law_size", "_law_j"]) (sc := defScope s_law_word) (by decide +kernel)) (fun _ _ _ _ _ => (pg_name (i := 3) nd rfl (.inl rfl))) (fun _ _ _ _ _ => pts_nil) (fun _ _ _ _ _ => (pe_ix ix_w (pv 1) (pe_op op_mod (pe_op op_fdiv (pe_cal c_law_mixed hr (pa_cons (pv 0) (pa_cons (pv 3) pa_nil))) pe_int) (pe_callB call_lenw (by rfl) B.len PySem.boot_len (pa_cons (pv 1) pa_nil))) (fun _ _ => rfl)))))))), ?_⟩
    try dsimp only [cxOf, Cx.nox, Cx.wish]
    have hc0 := Int.emod_nonneg (c / 8) (show (10 : Int) ≠ 0 by decide)
    have hc1 := Int.emod_lt_of_pos (c / 8) (show (0 : Int) < 10 by decide)
    fail "gi"
    rename_i p hp
    obtain ⟨v, hv, ev⟩ := pickm [V.int 1, V.int 2, V.int 3, V.int 2, V.int 4, V.int (1 + c / 8 % 10), V.int 3, V.int 2] c (by simp)
    obtain ⟨n, rfl, n0, n1⟩ : ∃ n : Int, v = .int n ∧ 1 ≤ n ∧ n ≤ 10 := by
      simp only [List.mem_cons, List.not_mem_nil, or_false] at hv
      rcases hv with rfl | rfl | rfl | rfl | rfl | rfl | rfl | rfl
      all_goals exact ⟨_, rfl, by omega, by omega⟩
    refine ⟨_, ev, ?_⟩
    fail "go"
    refine fun D hD => ?_
    have hn : ∀ i : Nat, ∃ x : Nat, x ∈ g ∧ g[(mixed c (0 + (i : Int)) / 64 % (g.length : Int)).toNat]? = some x := fun i => pickm g _ hg
    have hgl : 0 < g.length := List.length_pos_iff.mpr hg
    refine lc_rng (lo := 0) (n := n.toNat) (j := 3) (fun i => sv [(hn i).choose]) hD (by omega) (fun i hi H1 e1 Q1 q1 => ?_) (fun H1 e1 h1 => ?_)
    · fail "go"
      exact ⟨_, (hn i).choose_spec.2, q1 _ (Same.refl _)⟩
    · fail "go"
      have ef := flat1 (fun i => (hn i).choose) (List.range n.toNat)
      have el : ((List.range n.toNat).map fun i => (hn i).choose).length = n.toNat := by rw [List.length_map, List.length_range]
      refine ⟨(List.range n.toNat).map fun i => [(hn i).choose], SqL.of (by rw [h1, List.map_map]; rfl), by rw [ef]; omega, ?_⟩
      rw [ef]
      refine q _ ⟨by omega, by omega, fun x hx => ?_⟩ _ (by fail "same")
      obtain ⟨i, _, rfl⟩ := List.mem_map.mp hx
      exact hA _ (hn i).choose_spec.1
abbrev s_law_any_word : Stmt := top 27
theorem sc_law_any_word : FnScope ["_law_cell", "_law_word_here", "_law_more_here", "_law_j"] ["_law_cell"] (defScope s_law_any_word) := ⟨rfl, rfl, rfl, by decide +kernel, rfl, by decide +kernel, by decide +kernel⟩
def sp_law_any_word : Sp := fun vs H Q _ => ∃ c : Int, vs = [.int c] ∧ ∀ a : Wd, Word a → Ret H Q (sv a)
theorem ok_law_any_word (B : Bi mg) (D : Def K mg "_law_any_word" s_law_any_word) : Cal P w K mg base CX0 "_law_any_word" 1 ["_law_cell"] sp_law_any_word := by
  have nd := sc_law_any_word.nd
  refine D.cal sc_law_any_word (fun _ _ _ _ _ _ us hl => match us, hl with | [_], _ => rfl) (fun vs H Q E h => ?_) (fun f cdv A outer s H vs Q E hr h => ?_)
  · obtain ⟨_, rfl, _⟩ := h
    rfl
  · obtain ⟨c, rfl, q⟩ := h
    refine ⟨_, PSs.nox (pss_cons (ps_set (i := 1) nd rfl (.inl rfl) (pe_w [] rfl))
      (pss_cons (ps_set (i := 2) nd rfl (.inl rfl) (pe_op op_fdiv (pv 0) pe_int))
      (pss_cons (ps_for PassesOwn.never rfl (pi_range1 (by rfl) B.range (pa_cons (pe_op op_add pe_int (pe_op op_mod (pv 0) pe_int)) pa_nil)) (pg_name (i := 3) nd rfl (.inl rfl))
        (pss_cons (ps_set (i := 1) nd rfl (.inl rfl) (pe_op op_addw (pv 1) (pe_ix ix_w (pe_w ABC rfl) (pe_op op_mod (pv 2) pe_int) (fun _ _ => rfl))))
        (pss_one (ps_set (i := 2) nd rfl (.inl rfl) (pe_op op_fdiv (pv 2) pe_int)))))
      (pss_one (ps_ret (pv 1)))))), ?_⟩
    try dsimp only [cxOf, Cx.nox, Cx.wish]
    have hc0 := Int.emod_nonneg c (show (10 : Int) ≠ 0 by decide)
    have hc1 := Int.emod_lt_of_pos c (show (0 : Int) < 10 by decide)
    fail "gi"
    refine for_range (fun i σ' H' => ∃ (a : Wd) (m : Int) (x3 : Option V), σ' = [some (.int c), some (sv a), some (.int m), x3] ∧ Same H H' ∧ a.length = i ∧ Abc a) ⟨[], _, _, rfl, Same.refl _, rfl, fun _ h => nomatch h⟩ ?_ ?_
    · rintro i σ' H' hi ⟨a, m, x3, rfl, s1, hl, hA⟩
      obtain ⟨x, hx, ex⟩ := pickm ABC m (by decide)
      fail "go"
      refine ⟨x, ex, ?_⟩
      fail "go"
      refine ⟨by simp [hl], fun y hy => ?_⟩
      rcases List.mem_append.mp hy with h | h
      · exact hA y h
      · rw [List.mem_singleton.mp h]; exact hx
    · rintro σ' H' ⟨a, m, x3, rfl, s1, hl, hA⟩
      fail "go"
      exact q a ⟨by omega, by omega, hA⟩ _ s1

abbrev s_law_more : Stmt := top 28
theorem sc_law_more : FnScope ["_law_words_here", "_law_cell", "_law_signs_here", "_law_one", "_law_other", "_law_at_here", "_law_some"] ["_law_words_here", "_law_cell", "_law_signs_here"] (defScope s_law_more) := ⟨rfl, rfl, rfl, by decide +kernel, rfl, by decide +kernel, by decide +kernel⟩
def sp_law_more : Sp := fun vs H Q _ => ∃ (p : Addr) (c : Int) (g : Wd), vs = [.ref p, .int c, sv g] ∧ ∃ ws : List Wd, H p = some (.lst (ws.map sv)) ∧ ws ≠ [] ∧ (∀ w ∈ ws, Word w) ∧ g ≠ [] ∧ g.length ≤ 26 ∧ Abc g ∧ ∀ a : Wd, Word a → Ret H Q (sv a)
theorem ok_law_more (B : Bi mg) (D : Def K mg "_law_more" s_law_more) (c_law_word : Cal P w K mg base CX0 "_law_word" 2 ["_law_cell", "_law_signs_here"] sp_law_word) : Cal P w K mg base CX0 "_law_more" 3 ["_law_words_here", "_law_cell", "_law_signs_here"] sp_law_more := by
  have nd := sc_law_more.nd
  refine D.cal sc_law_more (fun _ _ _ _ _ _ us hl => match us, hl with | [_, _, _], _ => rfl) (fun vs H Q E h => ?_) (fun f cdv A outer s H vs Q E hr h => ?_)
  · obtain ⟨_, _, _, rfl, _⟩ := h
    rfl
  · obtain ⟨p, c, g, rfl, ws, hp, hn, hw, hg, hgl, hA, q⟩ := h
    refine ⟨_, PSs.nox (pss_cons (ps_set (i := 3) nd rfl (.inl rfl) (pe_ix (r := rIxLn K) ix_l (pv 0) (pe_op op_mod (pe_op op_fdiv (pv 1) pe_int) (pe_callB (r := rLenL K) call_lenl (by rfl) B.len PySem.boot_len (pa_cons (pv 0) pa_nil))) (fun _ _ => rfl)))
      (pss_cons (ps_set (i := 4) nd rfl (.inl rfl) (pe_ix (r := rIxLn K) ix_l (pv 0) (pe_op op_mod (pe_op op_fdiv (pv 1) pe_int) (pe_callB (r := rLenL K) call_lenl (by rfl) B.len PySem.boot_len (pa_cons (pv 0) pa_nil))) (fun _ _ => rfl)))
      (pss_cons (ps_set (i := 5) nd rfl (.inl rfl) (pe_op op_mod (pe_op op_fdiv (pv 1) pe_int) (pe_callB call_lenw (by rfl) B.len PySem.boot_len (pa_cons (pv 3) pa_nil))))
      (pss_cons (ps_set (i := 6) nd rfl (.inl rfl) (pe_lst (pa_cons (pe_op op_addw (pv 3) (pv 4)) (pa_cons (pe_op op_addw (pv 3) (pv 4)) (pa_cons (pe_op op_addw (pv 4) (pv 3)) (pa_cons (pe_op op_addw (pv 3) (pe_cal c_law_word hr (pa_cons (pe_op op_fdiv (pv 1) pe_int) (pa_cons (pv 2) pa_nil)))) (pa_cons (pe_op op_addw (pe_cal c_law_word hr (pa_cons (pe_op op_fdiv (pv 1) pe_int) (pa_cons (pv 2) pa_nil))) (pv 3)) pa_nil)))))))
      (pss_one (ps_ret (pe_slice (r := rSlW) sl_w (pe_ix (r := rIxLn K) ix_l (pe_op op_catl (pv 6) (pe_lst (pa_cons (pe_slice (r := rSlW) sl_w (pv 3) (po_some (pv 5)) po_none) (pa_cons (pe_slice (r := rSlW) sl_w (pv 3) po_none (po_some (pe_op op_add (pv 5) pe_int))) (pa_cons (pe_op op_addw (pe_slice (r := rSlW) sl_w (pv 3) (po_some (pv 5)) po_none) (pv 4)) pa_nil))))) (pe_op op_mod (pv 1) pe_int) (fun _ _ => rfl)) po_none (po_some pe_int)))))))), ?_⟩
    try dsimp only [cxOf, Cx.nox, Cx.wish]
    have hn' : ws.map sv ≠ [] := fun z => hn (List.map_eq_nil_iff.mp z)
    have hpos : 0 < (ws.map sv).length := List.length_pos_iff.mpr hn'
    fail "gi"
    refine ex_pickm hn' fun v1 h1 => ?_
    obtain ⟨one, m1, rfl⟩ := List.mem_map.mp h1
    have w1 := hw one m1
    have w1' := w1.1
    have w1'' := w1.2.1
    fail "gi"
    refine ex_pickm hn' fun v2 h2 => ?_
    obtain ⟨oth, m2, rfl⟩ := List.mem_map.mp h2
    have w2 := hw oth m2
    have w2' := w2.1
    have w2'' := w2.2.1
    fail "gi"
    intro u hu
    have u1 := hu.1
    have u2 := hu.2.1
    fail "gi"
    intro u' hu'
    have u1' := hu'.1
    have u2' := hu'.2.1
    have l0 := Int.emod_nonneg (c / 1352) (show (one.length : Int) ≠ 0 by omega)
    have l1 := Int.emod_lt_of_pos (c / 1352) (show (0 : Int) < one.length by omega)
    have k1 := cutW_len one (some (c / 1352 % (one.length : Int))) none
    fail "gi"
    refine ex_pick (Int.emod_nonneg _ (by decide)) (Int.emod_lt_of_pos _ (by decide)) fun v hv => ?_
    obtain ⟨a, rfl, hAa, ha1, ha2⟩ : ∃ a : Wd, v = sv a ∧ Abc a ∧ 1 ≤ a.length ∧ a.length ≤ 100 := by
      have a1 := w1.abc
      have a2 := w2.abc
      have k2 := cutW_len one none (some (c / 1352 % (one.length : Int) + 1))
      have k3 : 1 ≤ (cutW one (some (c / 1352 % (one.length : Int))) none).length := by
        rw [cutW_fromI one l0, List.length_drop]; omega
      have k4 : 1 ≤ (cutW one none (some (c / 1352 % (one.length : Int) + 1))).length := by
        rw [cutW_toI one (by omega), List.length_take]; omega
      simp only [List.mem_append, List.mem_cons, List.not_mem_nil, or_false] at hv
      rcases hv with (rfl | rfl | rfl | rfl | rfl) | rfl | rfl | rfl
      · exact ⟨_, rfl, a1.app a2, by rw [List.length_append]; omega, by rw [List.length_append]; omega⟩
      · exact ⟨_, rfl, a1.app a2, by rw [List.length_append]; omega, by rw [List.length_append]; omega⟩
      · exact ⟨_, rfl, a2.app a1, by rw [List.length_append]; omega, by rw [List.length_append]; omega⟩
      · exact ⟨_, rfl, a1.app hu.abc, by rw [List.length_append]; omega, by rw [List.length_append]; omega⟩
      · exact ⟨_, rfl, hu'.abc.app a1, by rw [List.length_append]; omega, by rw [List.length_append]; omega⟩
      · exact ⟨_, rfl, cutW_abc a1 _ _, k3, by omega⟩
      · exact ⟨_, rfl, cutW_abc a1 _ _, k4, by omega⟩
      · exact ⟨_, rfl, (cutW_abc a1 _ _).app a2, by rw [List.length_append]; omega, by rw [List.length_append]; omega⟩
    fail "gi"
    exact q _ (Word.cut hAa ha1 (by decide) (by decide)) _ (by fail "same")
theorem rot (W : List Wd) {i : Int} (h : 0 ≤ i) : cutV (W.map sv) (some i) none ++ cutV (W.map sv) none (some i) = (W.drop i.toNat ++ W.take i.toNat).map sv := by
  rw [cutV_fromI h, cutV_toI h, List.map_append, List.map_drop, List.map_take]
theorem rot_len (W : List Wd) {i : Int} (h : 0 ≤ i) : (cutV (W.map sv) (some i) none).length + (cutV (W.map sv) none (some i)).length = W.length := by
  rw [← List.length_append, rot W h, List.length_map, List.length_append, List.length_drop, List.length_take]; omega
theorem rot_mem {W : List Wd} {n : Nat} {w : Wd} (h : w ∈ W.drop n ++ W.take n) : w ∈ W := (List.mem_append.mp h).elim List.mem_of_mem_drop List.mem_of_mem_take
abbrev s_law_chain : Stmt := top 29
theorem sc_law_chain : FnScope ["_law_script", "_law_first", "_law_signs_here", "_law_links", "_law_k", "_law_words_here", "_law_turn"] ["_law_script", "_law_first", "_law_signs_here"] (defScope s_law_chain) := ⟨rfl, rfl, rfl, by decide +kernel, rfl, by decide +kernel, by decide +kernel⟩
def sp_law_chain (K : PySem.W.Frag) : Sp := fun vs H Q _ => ∃ (p : Addr) (k : Int) (g : Wd), vs = [.ref p, .int k, sv g] ∧ ∃ ns : List Int, SqL K H p (ns.map V.int) ∧ 0 ≤ k ∧ g ≠ [] ∧ g.length ≤ 26 ∧ Abc g ∧ ∀ ws : List Wd, ws ≠ [] → ws.length ≤ 10 → (∀ w ∈ ws, Word w) → RetL H Q (ws.map sv)
theorem ok_law_chain (B : Bi mg) (D : Def K mg "_law_chain" s_law_chain) (c_law_at : Cal P w K mg base CX0 "_law_at" 1 ["_law_script", "_law_k"] (sp_law_at K)) (c_law_mixed : Cal P w K mg base CX0 "_law_mixed" 1 ["_law_cell", "_law_k"] sp_law_mixed) (c_law_word : Cal P w K mg base CX0 "_law_word" 2 ["_law_cell", "_law_signs_here"] sp_law_word) : Cal P w K mg base CX0 "_law_chain" 3 ["_law_script", "_law_first", "_law_signs_here"] (sp_law_chain K) := by
  have nd := sc_law_chain.nd
  refine D.cal sc_law_chain (fun _ _ _ _ _ _ us hl => match us, hl with | [_, _, _], _ => rfl) (fun vs H Q E h => ?_) (fun f cdv A outer s H vs Q E hr h => ?_)
  · obtain ⟨_, _, _, rfl, _⟩ := h
    rfl
  · obtain ⟨p, k, g, rfl, ns, hS, hk, hg, hgl, hA, q⟩ := h
    refine ⟨_, PSs.nox (pss_cons (ps_set (i := 3) nd rfl (.inr rfl) (pe_lst pa_nil))
      (pss_cons (ps_for PassesOwn.never rfl (pi_range1 (by rfl) B.range (pa_cons (pe_op op_add pe_int (pe_op op_mod (pe_op op_fdiv (pe_cal c_law_at hr (pa_cons (pv 0) (pa_cons (pv 1) pa_nil))) pe_int) pe_int)) pa_nil)) (pg_name (i := 4) nd rfl (.inl rfl))
        (pss_one (ps_expr (pe_bm PySem.F.plainAttrs_list PySem.F.slot_list_append PySem.F.type_list_append mt_app (pv 3) (pa_cons (pe_slice (r := rSlW) sl_w (pe_cal c_law_word hr (pa_cons (pe_cal c_law_mixed hr (pa_cons (pe_cal c_law_at hr (pa_cons (pv 0) (pa_cons (pe_op op_add (pe_op op_add (pv 1) pe_int) (pe_op op_mod (pv 4) pe_int)) pa_nil))) (pa_cons (pv 4) pa_nil))) (pa_cons (pv 2) pa_nil))) po_none (po_some pe_int)) pa_nil)))))
      (pss_cons (ps_set (i := 5) nd rfl (.inl rfl) (pe_op op_catl (pe_lst (pa_cons (pe_ix (r := rIxLn K) ix_l (pv 3) pe_int (fun _ _ => rfl)) pa_nil)) (pe_lc (own := [("_law_k", 4)]) (g := gName 4) (tt := tYes) rfl nd (pi_range2 (by rfl) B.range (pa_cons pe_int (pa_cons (pe_callB (r := rLenL K) call_lenl (by rfl) B.len PySem.boot_len (pa_cons (pv 3) pa_nil)) pa_nil))) (blkOk_by (own := [("_law_k", 4)]) (N := ["_law_script", "_law_first", "_law_signs_here", "_law_links", "_law_k", "_law_words_here", "_law_turn"]) (sc := defScope s_law_chain) (by decide +kernel)) (fun _ _ _ _ _ => (pg_name (i := 4) nd rfl (.inl rfl))) (fun _ _ _ _ _ => pts_nil) (fun _ _ _ _ _ => (pe_op op_addw (pe_ix (r := rIxLn K) ix_l (pv 3) (pe_op op_sub (pv 4) pe_int) (fun _ _ => rfl)) (pe_ix (r := rIxLn K) ix_l (pv 3) (pv 4) (fun _ _ => rfl)))))))
      (pss_cons (ps_if (pt_cmpR op_eqn (pe_op op_mod (pe_op op_fdiv (pe_cal c_law_at hr (pa_cons (pv 0) (pa_cons (pv 1) pa_nil))) pe_int) pe_int) pe_int (nomark _))
        (pss_one (ps_expr (pe_bm PySem.F.plainAttrs_list PySem.F.slot_list_append PySem.F.type_list_append mt_app (pv 5) (pa_cons (pe_ix (r := rIxLm K) ix_lm (pv 3) (pe_un un_neg pe_int) (fun _ _ => rfl)) pa_nil))))
        pss_nil)
      (pss_cons (ps_set (i := 6) nd rfl (.inl rfl) (pe_op op_mod (pe_cal c_law_at hr (pa_cons (pv 0) (pa_cons (pe_op op_add (pv 1) pe_int) pa_nil))) (pe_callB (r := rLenL K) call_lenl (by rfl) B.len PySem.boot_len (pa_cons (pv 5) pa_nil))))
      (pss_one (ps_ret (pe_op op_catl (pe_slice (r := rSlLn K) sl_l (pv 5) (po_some (pv 6)) po_none) (pe_slice (r := rSlLn K) sl_l (pv 5) po_none (po_some (pv 6))))))))))), ?_⟩
    try dsimp only [cxOf, Cx.nox, Cx.wish]
    have c0 := Int.emod_nonneg (cell ns k / 40) (show (7 : Int) ≠ 0 by decide)
    have c1 := Int.emod_lt_of_pos (cell ns k / 40) (show (0 : Int) < 7 by decide)
    fail "gi"
    rename_i l hl
    refine for_range (fun i σ' H' => ∃ (ws : List Wd) (x4 : Option V), σ' = [some (.ref p), some (.int k), some (sv g), some (.ref l), x4, none, none] ∧ Same H H' ∧ H' l = some (.lst (ws.map sv)) ∧ ws.length = i ∧ ∀ w ∈ ws, Abc w ∧ 1 ≤ w.length ∧ w.length ≤ 5) ⟨[], none, rfl, new hl, upd_same, rfl, fun _ h => nomatch h⟩ ?_ ?_
    · rintro i σ' H' hi ⟨ws, x4, rfl, s1, hw, hn, hws⟩
      fail "gi"
      intro u hu
      have u1 := hu.1
      have u2 := hu.2.1
      have hm : (ws.map sv).length < 100000 := by rw [List.length_map]; omega
      fail "gi"
      refine ⟨ws ++ [cutW u none (some 5)], _, rfl, by fail "same", ?_, by rw [List.length_append]; simp [hn], ?_⟩
      · rw [upd_same, List.map_append]; rfl
      · intro w hw'
        rcases List.mem_append.mp hw' with h | h
        · exact hws w h
        · rw [List.mem_singleton.mp h, cutW_toI u (by decide)]
          exact ⟨hu.abc.take _, by rw [List.length_take]; omega, by rw [List.length_take]; omega⟩
    · rintro σ' H' ⟨ws, x4, rfl, s1, hw, hn, hws⟩
      have hn2 : ws.length = (2 + cell ns k / 40 % 7).toNat := hn
      have hlm : (ws.map sv).length = ws.length := List.length_map _
      obtain ⟨w0, r, rfl⟩ : ∃ w0 r, ws = w0 :: r := by
        cases ws with
        | nil => rw [List.length_nil] at hn2; omega
        | cons a b => exact ⟨a, b, rfl⟩
      rw [List.length_cons] at hn2
      fail "gi"
      rename_i p1 hp1 D hD
      have hget : ∀ i : Nat, i < r.length + 1 → ((w0 :: r).map sv)[i]? = some (sv ((w0 :: r).getD i [])) := fun i h => by
        rw [List.getElem?_map, List.getD_eq_getElem?_getD, List.getElem?_eq_getElem (by rw [List.length_cons]; omega)]; rfl
      have hgw : ∀ i : Nat, i < r.length + 1 → Abc ((w0 :: r).getD i []) ∧ 1 ≤ ((w0 :: r).getD i []).length ∧ ((w0 :: r).getD i []).length ≤ 5 := fun i h => by
        rw [List.getD_eq_getElem?_getD, List.getElem?_eq_getElem (by rw [List.length_cons]; omega)]
        exact hws _ (List.getElem_mem _)
      have hnn : ((((w0 :: r).map sv).length : Int) - 1).toNat = r.length := by simp
      refine lc_rng (lo := 1) (n := ((((w0 :: r).map sv).length : Int) - 1).toNat) (j := 4) (fun i => sv ((w0 :: r).getD i [] ++ (w0 :: r).getD (i + 1) [])) hD (by omega) (fun i hi H1 e1 Q1 q1 => ?_) (fun H1 e1 h1 => ?_)
      · have g1 : ((w0 :: r).map sv)[((1 + (i : Int)) - 1).toNat]? = some (sv ((w0 :: r).getD i [])) := by
          rw [show ((1 + (i : Int)) - 1).toNat = i by omega]; exact hget i (by omega)
        have g2 : ((w0 :: r).map sv)[(1 + (i : Int)).toNat]? = some (sv ((w0 :: r).getD (i + 1) [])) := by
          rw [show (1 + (i : Int)).toNat = i + 1 by omega]; exact hget _ (by omega)
        have b1 := (hgw i (by omega)).2.2
        have b2 := (hgw (i + 1) (by omega)).2.2
        fail "go"
        exact q1 _ (Same.refl _)
      · fail "go"
        rw [hnn] at h1 ⊢
        refine And.intro (by simp; omega) fun p2 hp2 => ?_
        have eW : [sv w0] ++ (List.range r.length).map (fun i => sv ((w0 :: r).getD i [] ++ (w0 :: r).getD (i + 1) [])) = (w0 :: (List.range r.length).map (fun i => (w0 :: r).getD i [] ++ (w0 :: r).getD (i + 1) [])).map sv := by
          rw [List.map_cons, List.map_map]; rfl
        rw [eW]
        have hW : ∀ x ∈ (w0 :: (List.range r.length).map (fun i => (w0 :: r).getD i [] ++ (w0 :: r).getD (i + 1) [])), Word x := fun x hx => by
          rcases List.mem_cons.mp hx with rfl | hx
          · have := hws x List.mem_cons_self
            exact ⟨this.2.1, by omega, this.1⟩
          · obtain ⟨i, hi, rfl⟩ := List.mem_map.mp hx
            rw [List.mem_range] at hi
            have a1 := hgw i (by omega)
            have a2 := hgw (i + 1) (by omega)
            exact ⟨by rw [List.length_append]; omega, by rw [List.length_append]; omega, a1.1.app a2.1⟩
        have hWl : (w0 :: (List.range r.length).map (fun i => (w0 :: r).getD i [] ++ (w0 :: r).getD (i + 1) [])).length = r.length + 1 := by simp
        have hL1 : H1 l = some (HO.lst ((w0 :: r).map sv)) := same_at e1 (new_at hp1 hw)
        have hlp : l ≠ p2 := fun z => by rw [z] at hL1; rw [hL1] at hp2; cases hp2
        generalize (w0 :: (List.range r.length).map (fun i => (w0 :: r).getD i [] ++ (w0 :: r).getD (i + 1) [])) = W at *
        have last : ∃ v, ((w0 :: r).map sv).getLast? = some (sv v) ∧ Word v := by
          refine ⟨(w0 :: r).getLast (List.cons_ne_nil _ _), ?_, ?_⟩
          · rw [List.getLast?_map, List.getLast?_eq_some_getLast (List.cons_ne_nil _ _)]; rfl
          · have := hws _ (List.getLast_mem (List.cons_ne_nil w0 r))
            exact ⟨this.2.1, by omega, this.1⟩
        obtain ⟨v, hv, wv⟩ := last
        have wl : (W.map sv).length < 100000 := by rw [List.length_map]; omega
        fail "gi"
        refine itd (fun e => ?_) fun e => ?_
        · fail "gi"
          rw [show W.map sv ++ [sv v] = (W ++ [v]).map sv by rw [List.map_append]; rfl]
          have hW2 : ∀ x ∈ W ++ [v], Word x := fun x hx => by
            rcases List.mem_append.mp hx with h | h
            · exact hW x h
            · rw [List.mem_singleton.mp h]; exact wv
          have wl2 : (W ++ [v]).length = r.length + 2 := by rw [List.length_append, hWl]; rfl
          generalize W ++ [v] = W2 at *
          have wl3 : 0 < (W2.map sv).length := by rw [List.length_map]; omega
          fail "gi"
          have i0 := Int.emod_nonneg (cell ns (k + 2)) (show ((W2.map sv).length : Int) ≠ 0 by omega)
          refine And.intro (by rw [rot_len W2 i0]; omega) fun p5 hp5 => ?_
          rw [rot W2 i0]
          refine q _ ?_ ?_ (fun w hw => hW2 w (rot_mem hw)) _ _ (by fail "same") (by fail "fr") upd_same
          · intro z
            have := congrArg List.length z
            rw [List.length_append, List.length_drop, List.length_take, List.length_nil] at this
            omega
          · rw [List.length_append, List.length_drop, List.length_take]; omega
        · have wl3 : 0 < (W.map sv).length := by rw [List.length_map]; omega
          fail "gi"
          have i0 := Int.emod_nonneg (cell ns (k + 2)) (show ((W.map sv).length : Int) ≠ 0 by omega)
          refine And.intro (by rw [rot_len W i0]; omega) fun p5 hp5 => ?_
          rw [rot W i0]
          refine q _ ?_ ?_ (fun w hw => hW w (rot_mem hw)) _ _ (by fail "same") (by fail "fr") upd_same
          · intro z
            have := congrArg List.length z
            rw [List.length_append, List.length_drop, List.length_take, List.length_nil] at this
            omega
          · rw [List.length_append, List.length_drop, List.length_take]; omega

set_option hygiene false in
local macro_rules | `(tactic| fail "w1") => `(tactic| (
  refine itn (fun hx => ?_) fun hx => ?_
  · fail "gi"
    refine ⟨ws ++ [y], _, _, _, rfl, by fail "same", by rw [upd_same, List.map_append]; rfl, List.nodup_append.mpr ⟨a3, by simp, fun a ha b hb => by rw [List.mem_singleton.mp hb]; exact fun z => hx (z ▸ ha)⟩, by rw [List.length_append]; exact Nat.succ_le_succ a4, ?_⟩
    intro w hw
    rcases List.mem_append.mp hw with h | h
    · exact a5 w h
    · rw [List.mem_singleton.mp h]; exact hy
  · exact ⟨ws, _, _, _, rfl, by fail "same", by fail "look", a3, by omega, a5⟩))
abbrev s_law_words : Stmt := top 30
theorem sc_law_words : FnScope ["_law_script", "_law_first", "_law_cell", "_law_signs_here", "_law_words_here", "_law_word_here", "_law_k", "_law_one"] ["_law_script", "_law_first"] (defScope s_law_words) := ⟨rfl, rfl, rfl, by decide +kernel, rfl, by decide +kernel, by decide +kernel⟩
def sp_law_words (K : PySem.W.Frag) : Sp := fun vs H Q _ => ∃ (p : Addr) (k : Int), vs = [.ref p, .int k] ∧ ∃ ns : List Int, SqL K H p (ns.map V.int) ∧ 0 ≤ k ∧ ∀ ws : List Wd, Code ws → RetL H Q (ws.map sv)
theorem ok_law_words (B : Bi mg) (D : Def K mg "_law_words" s_law_words) (c_law_at : Cal P w K mg base CX0 "_law_at" 1 ["_law_script", "_law_k"] (sp_law_at K)) (c_law_signs : Cal P w K mg base CX0 "_law_signs" 1 ["_law_cell"] sp_law_signs) (c_law_chain : Cal P w K mg base CX0 "_law_chain" 3 ["_law_script", "_law_first", "_law_signs_here"] (sp_law_chain K)) (c_law_mixed : Cal P w K mg base CX0 "_law_mixed" 1 ["_law_cell", "_law_k"] sp_law_mixed) (c_law_word : Cal P w K mg base CX0 "_law_word" 2 ["_law_cell", "_law_signs_here"] sp_law_word) (c_law_any_word : Cal P w K mg base CX0 "_law_any_word" 1 ["_law_cell"] sp_law_any_word) (c_law_more : Cal P w K mg base CX0 "_law_more" 3 ["_law_words_here", "_law_cell", "_law_signs_here"] sp_law_more) : Cal P w K mg base CX0 "_law_words" 4 ["_law_script", "_law_first"] (sp_law_words K) := by
  have nd := sc_law_words.nd
  refine D.cal sc_law_words (fun _ _ _ _ _ _ us hl => match us, hl with | [_, _], _ => rfl) (fun vs H Q E h => ?_) (fun f cdv A outer s H vs Q E hr h => ?_)
  · obtain ⟨_, _, rfl, _⟩ := h
    rfl
  · obtain ⟨p, k, rfl, ns, hS, hk, q⟩ := h
    refine ⟨_, PSs.nox (pss_cons (ps_set (i := 2) nd rfl (.inl rfl) (pe_cal c_law_at hr (pa_cons (pv 0) (pa_cons (pv 1) pa_nil))))
      (pss_cons (ps_set (i := 3) nd rfl (.inl rfl) (pe_cal c_law_signs hr (pa_cons (pe_cal c_law_at hr (pa_cons (pv 0) (pa_cons (pe_op op_add (pv 1) pe_int) pa_nil))) pa_nil)))
      (pss_cons (ps_set (i := 4) nd rfl (.inl rfl) (pe_lst pa_nil))
      (pss_cons (ps_if (pt_cmpR op_eqn (pe_op op_mod (pe_op op_fdiv (pv 2) pe_int) pe_int) pe_int (nomark _))
        (pss_cons (ps_for PassesOwn.never rfl (pi_list (pe_cal c_law_chain hr (pa_cons (pv 0) (pa_cons (pv 1) (pa_cons (pv 3) pa_nil))))) (pg_name (i := 5) nd rfl (.inl rfl))
          (pss_one (ps_if (pt_cmpR (r := rInW K true) op_niw (pv 5) (pv 4) (by rfl))
            (pss_one (ps_expr (pe_bm PySem.F.plainAttrs_list PySem.F.slot_list_append PySem.F.type_list_append mt_app (pv 4) (pa_cons (pv 5) pa_nil))))
            pss_nil)))
        (pss_one (ps_ret (pv 4))))
        pss_nil)
      (pss_cons (ps_for PassesOwn.never rfl (pi_range1 (by rfl) B.range (pa_cons (pe_ix (r := rIxLn K) ix_l (pe_lst (pa_cons pe_int (pa_cons pe_int (pa_cons pe_int (pa_cons pe_int (pa_cons pe_int (pa_cons pe_int (pa_cons pe_int (pa_cons pe_int (pa_cons pe_int (pa_cons pe_int pa_nil))))))))))) (pe_op op_mod (pv 2) pe_int) (fun _ _ => rfl)) pa_nil)) (pg_name (i := 6) nd rfl (.inl rfl))
        (pss_cons (ps_set (i := 7) nd rfl (.inl rfl) (pe_cal c_law_at hr (pa_cons (pv 0) (pa_cons (pe_op op_add (pe_op op_add (pv 1) pe_int) (pe_op op_mod (pv 6) pe_int)) pa_nil))))
        (pss_cons (ps_set (i := 5) nd rfl (.inl rfl) (pe_cal c_law_word hr (pa_cons (pe_cal c_law_mixed hr (pa_cons (pv 7) (pa_cons (pv 6) pa_nil))) (pa_cons (pv 3) pa_nil))))
        (pss_cons (ps_if (pt_cmpR op_eqn (pe_op op_mod (pe_op op_fdiv (pv 2) pe_int) pe_int) pe_int (nomark _))
          (pss_one (ps_set (i := 5) nd rfl (.inl rfl) (pe_cal c_law_any_word hr (pa_cons (pe_op op_add (pv 7) (pv 6)) pa_nil))))
          (pss_one (ps_if (PW.pt (pw_and (pt_cmpR (r := rNeP K) (op_nep hr.units) (pv 4) (pe_lst pa_nil) (nomark _)) (pw_and1 (pt_cmpR op_eqn (pe_op op_mod (pe_op op_fdiv (pe_cal c_law_mixed hr (pa_cons (pv 7) (pa_cons (pv 6) pa_nil))) pe_int) pe_int) pe_int (nomark _)))))
            (pss_one (ps_set (i := 5) nd rfl (.inl rfl) (pe_cal c_law_more hr (pa_cons (pv 4) (pa_cons (pe_cal c_law_mixed hr (pa_cons (pv 7) (pa_cons (pe_op op_add (pv 6) pe_int) pa_nil))) (pa_cons (pv 3) pa_nil))))))
            pss_nil)))
        (pss_one (ps_if (pt_cmpR (r := rInW K true) op_niw (pv 5) (pv 4) (by rfl))
          (pss_one (ps_expr (pe_bm PySem.F.plainAttrs_list PySem.F.slot_list_append PySem.F.type_list_append mt_app (pv 4) (pa_cons (pv 5) pa_nil))))
          pss_nil))))))
      (pss_one (ps_ret (pv 4)))))))), ?_⟩
    try dsimp only [cxOf, Cx.nox, Cx.wish]
    fail "gi"
    intro g hg hgl hA
    fail "gi"
    rename_i H1 s1 l hl
    refine itd (fun e => ?_) fun e => ?_
    · fail "gi"
      intro cs hc hcl hcw
      fail "gi"
      rename_i pc H2 s2 np hpc
      have ne : pc ≠ l := by fail "ne"
      refine for_wl (xs := cs) (j := 5) (fun pre σ' H' => ∃ (ws : List Wd) (x5 : Option V), σ' = [some (.ref p), some (.int k), some (.int (cell ns k)), some (sv g), some (.ref l), x5, none, none] ∧ Same H H' ∧ H' pc = some (.lst (cs.map sv)) ∧ H' l = some (.lst (ws.map sv)) ∧ ws.Nodup ∧ ws.length ≤ pre.length ∧ ∀ w ∈ ws, w ∈ pre) ⟨[], none, rfl, by fail "same", hpc, same_at s2 upd_same, List.nodup_nil, Nat.zero_le _, fun _ h => nomatch h⟩ ?_ ?_ ?_
      · rintro pre σ' H' ⟨ws, x5, rfl, a1, a2, a3, a4, a5, a6⟩
        exact SqL.of a2
      · rintro pre x post σ' H' ex ⟨ws, x5, rfl, a1, a2, a3, a4, a5, a6⟩
        have hxl : cs.length = pre.length + (post.length + 1) := by rw [ex, List.length_append, List.length_cons]
        have hm : (ws.map sv).length < 100000 := by rw [List.length_map]; omega
        fail "gi"
        refine itn (fun hx => ?_) fun hx => ?_
        · fail "gi"
          refine ⟨ws ++ [x], _, rfl, by fail "same", by fail "look", ?_, ?_, ?_, ?_⟩
          · rw [upd_same, List.map_append]; rfl
          · exact List.nodup_append.mpr ⟨a4, by simp, fun a ha b hb => by rw [List.mem_singleton.mp hb]; exact fun z => hx (z ▸ ha)⟩
          · rw [List.length_append, List.length_append]; exact Nat.succ_le_succ a5
          · intro w hw
            rcases List.mem_append.mp hw with h | h
            · exact List.mem_append_left _ (a6 w h)
            · exact List.mem_append_right _ h
        · exact ⟨ws, _, rfl, a1, a2, a3, a4, by rw [List.length_append]; omega, fun w hw => List.mem_append_left _ (a6 w hw)⟩
      · rintro σ' H' ⟨ws, x5, rfl, a1, a2, a3, a4, a5, a6⟩
        fail "gi"
        exact q ws ⟨a4, by omega, fun w hw => hcw w (a6 w hw)⟩ _ _ a1 (by fail "fr") a3
    · fail "gi"
      refine ex_pick (Int.emod_nonneg _ (by decide)) (Int.emod_lt_of_pos _ (by decide)) fun v hv => ?_
      obtain ⟨n, rfl, hn0, hn⟩ : ∃ n : Int, v = .int n ∧ 0 ≤ n ∧ n ≤ 12 := by
        simp only [List.mem_append, List.mem_cons, List.not_mem_nil, or_false] at hv
        rcases hv with rfl | rfl | rfl | rfl | rfl | rfl | rfl | rfl | rfl | rfl <;> exact ⟨_, rfl, by decide, by decide⟩
      fail "gi"
      refine for_range (fun i σ' H' => ∃ (ws : List Wd) (x5 x6 x7 : Option V), σ' = [some (.ref p), some (.int k), some (.int (cell ns k)), some (sv g), some (.ref l), x5, x6, x7] ∧ Same H H' ∧ H' l = some (.lst (ws.map sv)) ∧ ws.Nodup ∧ ws.length ≤ i ∧ ∀ w ∈ ws, Word w) ⟨[], none, none, none, rfl, by fail "same", by fail "look", List.nodup_nil, Nat.zero_le _, fun _ h => nomatch h⟩ ?_ ?_
      · rintro i σ' H' hi ⟨ws, x5, x6, x7, rfl, a1, a2, a3, a4, a5⟩
        have hm : (ws.map sv).length < 100000 := by rw [List.length_map]; omega
        have ho := ok_strs ws
        have hoe : okD (.list []) = true := rfl
        fail "gi"
        intro y hy
        fail "gi"
        refine itd (fun e1 => ?_) fun e1 => ?_
        · fail "gi"
          intro y hy
          fail "gi"
          fail "w1"
        · fail "gi"
          rw [show (PyData.list []) = PyData.list (([] : List Wd).map sd) from rfl, eqv_strs]
          refine itn (fun e2 => ?_) fun e2 => ?_
          · fail "gi"
            refine itd (fun e3 => ?_) fun e3 => ?_
            · fail "gi"
              intro y hy
              fail "gi"
              fail "w1"
            · fail "gi"
              fail "w1"
          · fail "gi"
            fail "w1"
      · rintro σ' H' ⟨ws, x5, x6, x7, rfl, a1, a2, a3, a4, a5⟩
        fail "gi"
        exact q ws ⟨a3, by omega, a5⟩ _ _ a1 (by fail "fr") a2

abbrev s_law_row : Stmt := top 31
theorem sc_law_row : FnScope ["_law_script", "_law_first", "_law_words_here", "_law_most", "_law_row_here", "_law_k"] ["_law_script", "_law_first", "_law_words_here", "_law_most"] (defScope s_law_row) := ⟨rfl, rfl, rfl, by decide +kernel, rfl, by decide +kernel, by decide +kernel⟩
def sp_law_row (K : PySem.W.Frag) : Sp := fun vs H Q _ => ∃ (p : Addr) (k : Int) (lw : Addr) (m : Int), vs = [.ref p, .int k, .ref lw, .int m] ∧ ∃ ns : List Int, SqL K H p (ns.map V.int) ∧ ∃ ws : List Wd, H lw = some (.lst (ws.map sv)) ∧ 0 ≤ k ∧ 0 ≤ m ∧ m ≤ 100 ∧ ∀ rs : List Wd, (rs.length : Int) ≤ m → (∀ r ∈ rs, r ∈ ws) → RetL H Q (rs.map sv)
theorem ok_law_row (B : Bi mg) (D : Def K mg "_law_row" s_law_row) (c_law_at : Cal P w K mg base CX0 "_law_at" 1 ["_law_script", "_law_k"] (sp_law_at K)) (c_law_mixed : Cal P w K mg base CX0 "_law_mixed" 1 ["_law_cell", "_law_k"] sp_law_mixed) : Cal P w K mg base CX0 "_law_row" 2 ["_law_script", "_law_first", "_law_words_here", "_law_most"] (sp_law_row K) := by
  have nd := sc_law_row.nd
  refine D.cal sc_law_row (fun _ _ _ _ _ _ us hl => match us, hl with | [_, _, _, _], _ => rfl) (fun vs H Q E h => ?_) (fun f cdv A outer s H vs Q E hr h => ?_)
  · obtain ⟨_, _, _, _, rfl, _⟩ := h
    rfl
  · obtain ⟨p, k, lw, m, rfl, ns, hS, ws, hw, hk, hm0, hm, q⟩ := h
    refine ⟨_, PSs.nox (pss_cons (ps_set (i := 4) nd rfl (.inl rfl) (pe_lst pa_nil))
      (pss_cons (ps_if (pt_cmpR (r := rNeP K) (op_nep hr.units) (pv 2) (pe_lst pa_nil) (nomark _))
        (pss_one (ps_for PassesOwn.never rfl (pi_range1 (by rfl) B.range (pa_cons (pe_op op_mod (pe_cal c_law_at hr (pa_cons (pv 0) (pa_cons (pv 1) pa_nil))) (pe_op op_add (pv 3) pe_int)) pa_nil)) (pg_name (i := 5) nd rfl (.inl rfl))
          (pss_one (ps_expr (pe_bm PySem.F.plainAttrs_list PySem.F.slot_list_append PySem.F.type_list_append mt_app (pv 4) (pa_cons (pe_ix (r := rIxLn K) ix_l (pv 2) (pe_op op_mod (pe_op op_fdiv (pe_cal c_law_mixed hr (pa_cons (pe_cal c_law_at hr (pa_cons (pv 0) (pa_cons (pe_op op_add (pe_op op_add (pv 1) pe_int) (pe_op op_mod (pv 5) pe_int)) pa_nil))) (pa_cons (pv 5) pa_nil))) pe_int) (pe_callB (r := rLenL K) call_lenl (by rfl) B.len PySem.boot_len (pa_cons (pv 2) pa_nil))) (fun _ _ => rfl)) pa_nil))))))
        pss_nil)
      (pss_one (ps_ret (pv 4))))), ?_⟩
    try dsimp only [cxOf, Cx.nox, Cx.wish]
    have ho := ok_strs ws
    have hoe : okD (.list []) = true := rfl
    have c0 := Int.emod_nonneg (cell ns k) (show m + 1 ≠ 0 by omega)
    have c1 := Int.emod_lt_of_pos (cell ns k) (show 0 < m + 1 by omega)
    fail "gi"
    rw [show (PyData.list []) = PyData.list (([] : List Wd).map sd) from rfl, eqv_strs]
    rename_i l hl _ _
    refine itn (fun e2 => ?_) fun e2 => ?_
    · have hn' : ws.map sv ≠ [] := fun z => e2 (List.map_eq_nil_iff.mp z)
      have hpos : 0 < (ws.map sv).length := List.length_pos_iff.mpr hn'
      fail "gi"
      have nl : l ≠ lw := ne_free hl hw
      have nl' := nl.symm
      refine for_range (fun i σ' H' => ∃ (rs : List Wd) (x5 : Option V), σ' = [some (.ref p), some (.int k), some (.ref lw), some (.int m), some (.ref l), x5] ∧ Same H H' ∧ H' l = some (.lst (rs.map sv)) ∧ rs.length = i ∧ ∀ r ∈ rs, r ∈ ws) ⟨[], none, rfl, by fail "same", by fail "look", rfl, fun _ h => nomatch h⟩ ?_ ?_
      · rintro i σ' H' hi ⟨rs, x5, rfl, a1, a2, a3, a4⟩
        have hm : (rs.map sv).length < 100000 := by rw [List.length_map]; omega
        fail "gi"
        refine ex_pickm hn' fun v hv => ?_
        obtain ⟨y, hy, rfl⟩ := List.mem_map.mp hv
        fail "gi"
        refine ⟨rs ++ [y], _, rfl, by fail "same", by fail "look", by rw [List.length_append, a3]; rfl, ?_⟩
        intro w hw
        rcases List.mem_append.mp hw with h | h
        · exact a4 w h
        · rw [List.mem_singleton.mp h]; exact hy
      · rintro σ' H' ⟨rs, x5, rfl, a1, a2, a3, a4⟩
        fail "gi"
        exact q rs (by omega) a4 _ _ a1 (by fail "fr") a2
    · fail "gi"
      exact q [] (by exact hm0) (fun _ h => nomatch h) _ _ (by fail "same") (by fail "fr") (by fail "look")
abbrev s_law_text : Stmt := top 32
theorem sc_law_text : FnScope ["_law_script", "_law_first", "_law_words_here", "_law_text_here", "_law_cell", "_law_at_here", "_law_sign", "_law_some"] ["_law_script", "_law_first", "_law_words_here"] (defScope s_law_text) := ⟨rfl, rfl, rfl, by decide +kernel, rfl, by decide +kernel, by decide +kernel⟩
theorem flat_len {B : Nat} : ∀ {rs : List Wd}, (∀ r ∈ rs, r.length ≤ B) → rs.flatten.length ≤ rs.length * B
  | [], _ => Nat.zero_le _
  | r :: rs, h => by
    have h1 := h r List.mem_cons_self
    have h2 := flat_len (B := B) (rs := rs) fun x hx => h x (List.mem_cons_of_mem _ hx)
    rw [List.flatten_cons, List.length_append, List.length_cons, Nat.succ_mul]
    omega
theorem flat_abc {rs : List Wd} (h : ∀ r ∈ rs, Abc r) : Abc rs.flatten := fun c hc => by
  obtain ⟨r, hr, h2⟩ := List.mem_flatten.mp hc
  exact h r hr c h2
def sp_law_text (K : PySem.W.Frag) : Sp := fun vs H Q _ => ∃ (p : Addr) (k : Int) (lw : Addr), vs = [.ref p, .int k, .ref lw] ∧ ∃ ns : List Int, SqL K H p (ns.map V.int) ∧ ∃ ws : List Wd, H lw = some (.lst (ws.map sv)) ∧ 0 ≤ k ∧ Code ws ∧ ∀ t : Wd, t.length ≤ 81 → Abc t → Ret H Q (sv t)
theorem ok_law_text (B : Bi mg) (D : Def K mg "_law_text" s_law_text) (c_law_row : Cal P w K mg base CX0 "_law_row" 2 ["_law_script", "_law_first", "_law_words_here", "_law_most"] (sp_law_row K)) (c_law_at : Cal P w K mg base CX0 "_law_at" 1 ["_law_script", "_law_k"] (sp_law_at K)) : Cal P w K mg base CX0 "_law_text" 3 ["_law_script", "_law_first", "_law_words_here"] (sp_law_text K) := by
  have nd := sc_law_text.nd
  refine D.cal sc_law_text (fun _ _ _ _ _ _ us hl => match us, hl with | [_, _, _], _ => rfl) (fun vs H Q E h => ?_) (fun f cdv A outer s H vs Q E hr h => ?_)
  · obtain ⟨_, _, _, rfl, _⟩ := h
    rfl
  · obtain ⟨p, k, lw, rfl, ns, hS, ws, hw, hk, hc, q⟩ := h
    refine ⟨_, PSs.nox (pss_cons (ps_set (i := 3) nd rfl (.inl rfl) (pe_m1 (r := rJoW K) PySem.F.slot_str_join PySem.F.type_str_join mt_jow (pe_w [] rfl) (pe_cal c_law_row hr (pa_cons (pv 0) (pa_cons (pv 1) (pa_cons (pv 2) (pa_cons pe_int pa_nil)))))))
      (pss_cons (ps_set (i := 4) nd rfl (.inl rfl) (pe_cal c_law_at hr (pa_cons (pv 0) (pa_cons (pe_op op_add (pv 1) pe_int) pa_nil))))
      (pss_cons (ps_set (i := 5) nd rfl (.inl rfl) (pe_op op_mod (pe_op op_fdiv (pv 4) pe_int) (pe_op op_add (pe_callB call_lenw (by rfl) B.len PySem.boot_len (pa_cons (pv 3) pa_nil)) pe_int)))
      (pss_cons (ps_set (i := 6) nd rfl (.inl rfl) (pe_ix ix_w (pe_m1 (r := rJoW K) PySem.F.slot_str_join PySem.F.type_str_join mt_jow (pe_w [] rfl) (pe_op op_catl (pv 2) (pe_lst (pa_cons (pe_w [113] rfl) pa_nil)))) (pe_op op_mod (pe_op op_fdiv (pv 4) pe_int) (pe_callB call_lenw (by rfl) B.len PySem.boot_len (pa_cons (pe_m1 (r := rJoW K) PySem.F.slot_str_join PySem.F.type_str_join mt_jow (pe_w [] rfl) (pe_op op_catl (pv 2) (pe_lst (pa_cons (pe_w [113] rfl) pa_nil)))) pa_nil))) (fun _ _ => rfl)))
      (pss_cons (ps_set (i := 7) nd rfl (.inl rfl) (pe_lst (pa_cons (pv 3) (pa_cons (pv 3) (pa_cons (pv 3) (pa_cons (pv 3) (pa_cons (pe_op op_addw (pe_op op_addw (pe_slice (r := rSlW) sl_w (pv 3) po_none (po_some (pv 5))) (pv 6)) (pe_slice (r := rSlW) sl_w (pv 3) (po_some (pv 5)) po_none)) (pa_cons (pe_op op_addw (pe_slice (r := rSlW) sl_w (pv 3) po_none (po_some (pv 5))) (pe_slice (r := rSlW) sl_w (pv 3) (po_some (pe_op op_add (pv 5) pe_int)) po_none)) (pa_cons (pe_slice (r := rSlW) sl_w (pv 3) po_none (po_some (pv 5))) pa_nil)))))))))
      (pss_one (ps_ret (pe_ix (r := rIxLn K) ix_l (pe_op op_catl (pv 7) (pe_lst (pa_cons (pe_op op_addw (pe_op op_addw (pe_slice (r := rSlW) sl_w (pv 3) po_none (po_some (pv 5))) (pv 6)) (pe_slice (r := rSlW) sl_w (pv 3) (po_some (pe_op op_add (pv 5) pe_int)) po_none)) pa_nil))) (pe_op op_mod (pv 4) pe_int) (fun _ _ => rfl))))))))), ?_⟩
    try dsimp only [cxOf, Cx.nox, Cx.wish]
    fail "gi"
    intro rs hrl hrs
    have f1 : rs.flatten.length ≤ rs.length * 10 := flat_len fun r h => (hc.wd r (hrs r h)).2.1
    have f2 : Abc rs.flatten := flat_abc fun r h => (hc.wd r (hrs r h)).abc
    have f3 : (ws ++ [[113]]).flatten.length ≤ (ws ++ [[113]]).length * 10 := flat_len fun r h => (List.mem_append.mp h).elim (fun h => (hc.wd r h).2.1) fun h => by rw [List.mem_singleton.mp h]; decide
    have f4 : Abc (ws ++ [[113]]).flatten := flat_abc fun r h => (List.mem_append.mp h).elim (fun h => (hc.wd r h).abc) fun h => by rw [List.mem_singleton.mp h]; unfold Abc; decide
    have f5 : (ws ++ [[113]]).flatten ≠ [] := by simp
    have f6 : (ws ++ [[113]]).length ≤ 13 := by rw [List.length_append]; exact Nat.succ_le_succ hc.le
    have hcl := hc.le
    have f7 : 0 < (ws ++ [[113]]).flatten.length := List.length_pos_iff.mpr f5
    fail "gi"
    refine ex_pickm f5 fun x hx => ?_
    have hx' : Abc [x] := fun c hc => by rw [List.mem_singleton.mp hc]; exact f4 x hx
    generalize rs.flatten = t at *
    have i0 := Int.emod_nonneg (cell ns (k + 6) / 8) (show ((t.length : Int) + 1) ≠ 0 by omega)
    have i1 := Int.emod_lt_of_pos (cell ns (k + 6) / 8) (show (0 : Int) < (t.length : Int) + 1 by omega)
    have k1 := cutW_len t none (some (cell ns (k + 6) / 8 % ((t.length : Int) + 1)))
    have k2 := cutW_len t (some (cell ns (k + 6) / 8 % ((t.length : Int) + 1))) none
    have k3 := cutW_len t (some (cell ns (k + 6) / 8 % ((t.length : Int) + 1) + 1)) none
    have k4 : (cutW t none (some (cell ns (k + 6) / 8 % ((t.length : Int) + 1)))).length + (cutW t (some (cell ns (k + 6) / 8 % ((t.length : Int) + 1))) none).length = t.length := by
      rw [cutW_toI t i0, cutW_fromI t i0, List.length_take, List.length_drop]; omega
    have k5 : (cutW t none (some (cell ns (k + 6) / 8 % ((t.length : Int) + 1)))).length + (cutW t (some (cell ns (k + 6) / 8 % ((t.length : Int) + 1) + 1)) none).length ≤ t.length := by
      rw [cutW_toI t i0, cutW_fromI t (by omega), List.length_take, List.length_drop]; omega
    fail "gi"
    refine ex_pick (Int.emod_nonneg _ (by decide)) (Int.emod_lt_of_pos _ (by decide)) fun v hv => ?_
    obtain ⟨t', rfl, h1, h2⟩ : ∃ a : Wd, v = sv a ∧ a.length ≤ 81 ∧ Abc a := by
      simp only [List.mem_append, List.mem_cons, List.not_mem_nil, or_false] at hv
      have e1 := cutW_abc f2 none (some (cell ns (k + 6) / 8 % ((t.length : Int) + 1)))
      have e2 := cutW_abc f2 (some (cell ns (k + 6) / 8 % ((t.length : Int) + 1))) none
      have e3 := cutW_abc f2 (some (cell ns (k + 6) / 8 % ((t.length : Int) + 1) + 1)) none
      rcases hv with (rfl | rfl | rfl | rfl | rfl | rfl | rfl) | rfl
      · exact ⟨_, rfl, by omega, f2⟩
      · exact ⟨_, rfl, by omega, f2⟩
      · exact ⟨_, rfl, by omega, f2⟩
      · exact ⟨_, rfl, by omega, f2⟩
      · exact ⟨_, rfl, by simp only [List.length_append, List.length_cons, List.length_nil]; omega, (e1.app hx').app e2⟩
      · exact ⟨_, rfl, by simp only [List.length_append]; omega, e1.app e3⟩
      · exact ⟨_, rfl, by omega, e1⟩
      · exact ⟨_, rfl, by simp only [List.length_append, List.length_cons, List.length_nil]; omega, (e1.app hx').app e3⟩
    fail "gi"
    exact q t' h1 h2 _ (by fail "same")

/-! ### the counts of partings -/
def fits (t : Wd) (p : Nat) (w : Wd) : Bool := decide ((t.drop p).take w.length = w)
/-- the counts at the last d + 1 places -/
def tab (ws : List Wd) (t : Wd) : Nat → List Int
  | 0 => [1]
  | d + 1 => ((ws.filter (fits t (t.length - (d + 1)))).map fun w => (tab ws t d).getD (w.length - 1) 0).sum :: tab ws t d
def cnt (ws : List Wd) (t : Wd) : List Int := tab ws t t.length
theorem tab_len (ws : List Wd) (t : Wd) : ∀ d, (tab ws t d).length = d + 1
  | 0 => rfl
  | d + 1 => by show (tab ws t d).length + 1 = _; rw [tab_len ws t d]
def part (t : Wd) (p : Nat) (r : List Int) (ws : List Wd) : Int := ((ws.filter (fits t p)).map fun w => r.getD (w.length - 1) 0).sum
theorem part_snoc (t : Wd) (p : Nat) (r : List Int) (ws : List Wd) (w : Wd) : part t p r (ws ++ [w]) = if (t.drop p).take w.length = w then part t p r ws + r.getD (w.length - 1) 0 else part t p r ws := by
  unfold part
  rw [List.filter_append, List.map_append, List.sum_append]
  by_cases h : (t.drop p).take w.length = w
  · rw [if_pos h, List.filter_cons_of_pos (by unfold fits; exact decide_eq_true h)]; simp
  · rw [if_neg h, List.filter_cons_of_neg (by unfold fits; simpa using h)]; simp
theorem at_mid {a : Nat} {s : Int} {r : List Int} {k : Int} (h : k.toNat = a) : ((List.replicate a 0 ++ s :: r).map V.int)[k.toNat]? = some (.int s) := by
  rw [h, List.getElem?_map, List.getElem?_append_right (by simp)]; simp
theorem at_after {a j : Nat} {s : Int} {r : List Int} {k : Int} (h : k.toNat = a + 1 + j) (hj : j < r.length) : ((List.replicate a 0 ++ s :: r).map V.int)[k.toNat]? = some (.int (r.getD j 0)) := by
  rw [h, List.getElem?_map, List.getElem?_append_right (by simp; omega), List.length_replicate, show a + 1 + j - a = j + 1 by omega, List.getElem?_cons_succ, List.getD_eq_getElem?_getD, List.getElem?_eq_getElem hj]; rfl
theorem set_mid {a : Nat} {s v : Int} {r : List Int} {k : Int} (h : k.toNat = a) : ((List.replicate a 0 ++ s :: r).map V.int).set k.toNat (.int v) = (List.replicate a 0 ++ v :: r).map V.int := by
  rw [h, List.map_append, List.map_append, List.set_append_right _ _ (by simp)]; simp
abbrev s_law_counts : Stmt := top 33
theorem sc_law_counts : FnScope ["_law_words_here", "_law_text_here", "_law_found", "_law_place", "_law_word_here"] ["_law_words_here", "_law_text_here"] (defScope s_law_counts) := ⟨rfl, rfl, rfl, by decide +kernel, rfl, by decide +kernel, by decide +kernel⟩
def sp_law_counts : Sp := fun vs H Q _ => ∃ (lw : Addr) (t : Wd), vs = [.ref lw, sv t] ∧ ∃ ws : List Wd, H lw = some (.lst (ws.map sv)) ∧ Code ws ∧ t.length ≤ 5000 ∧ RetL H Q ((cnt ws t).map V.int)
theorem ok_law_counts (B : Bi mg) (D : Def K mg "_law_counts" s_law_counts) : Cal P w K mg base CX0 "_law_counts" 2 ["_law_words_here", "_law_text_here"] sp_law_counts := by
  have nd := sc_law_counts.nd
  refine D.cal sc_law_counts (fun _ _ _ _ _ _ us hl => match us, hl with | [_, _], _ => rfl) (fun vs H Q E h => ?_) (fun f cdv A outer s H vs Q E hr h => ?_)
  · obtain ⟨_, _, rfl, _⟩ := h
    rfl
  · obtain ⟨lw, t, rfl, ws, hw, hc, ht, q⟩ := h
    refine ⟨_, PSs.nox (pss_cons (ps_set (i := 2) nd rfl (.inl rfl) (pe_op op_catl (pe_op op_repn (pe_lst (pa_cons pe_int pa_nil)) (pe_callB call_lenw (by rfl) B.len PySem.boot_len (pa_cons (pv 1) pa_nil))) (pe_lst (pa_cons pe_int pa_nil))))
      (pss_cons (ps_for PassesOwn.never rfl (pi_revR (by rfl) B.reversed (prg_1 (by rfl) B.range (pe_callB call_lenw (by rfl) B.len PySem.boot_len (pa_cons (pv 1) pa_nil)))) (pg_name (i := 3) nd rfl (.inl rfl))
        (pss_one (ps_for PassesOwn.never rfl (pi_list (pv 0)) (pg_name (i := 4) nd rfl (.inl rfl))
          (pss_one (ps_if (pt_cmpR op_eqw (pe_slice (r := rSlW) sl_w (pv 1) (po_some (pv 3)) (po_some (pe_op op_add (pv 3) (pe_callB call_lenw (by rfl) B.len PySem.boot_len (pa_cons (pv 4) pa_nil))))) (pv 4) (nomark _))
            (pss_one (ps_asg (pe_op op_add (pe_ix (r := rIxLn K) ix_l (pv 2) (pv 3) (fun _ _ => rfl)) (pe_ix (r := rIxLn K) ix_l (pv 2) (pe_op op_add (pv 3) (pe_callB call_lenw (by rfl) B.len PySem.boot_len (pa_cons (pv 4) pa_nil))) (fun _ _ => rfl))) (pg_sub (t := rSetLn) (pv 2) (pv 3) set_ln)))
            pss_nil)))))
      (pss_one (ps_ret (pv 2))))), ?_⟩
    try dsimp only [cxOf, Cx.nox, Cx.wish]
    fail "gi"
    rename_i p1 hp1 p2 hp2 p3 hp3 l hl
    have nl : lw ≠ l := (ne_free hl (by fail "look" : _ = some (HO.lst (ws.map sv)))).symm
    refine for_rangeC (fun i σ' H' => ∃ (x3 x4 : Option V), σ' = [some (.ref lw), some (sv t), some (.ref l), x3, x4] ∧ Same H H' ∧ H' l = some (.lst ((List.replicate (t.length - i) 0 ++ tab ws t i).map V.int))) ⟨none, none, rfl, by fail "same", by rw [upd_same]; simp [tab]⟩ ?_ ?_
    · rintro i σ' H' hi ⟨x3, x4, rfl, a1, a2⟩
      have hi' : i < t.length := by omega
      have e1 : t.length - i = (t.length - (i + 1)) + 1 := by omega
      rw [e1, List.replicate_succ'] at a2
      have e2 : (0 + (((t.length : Int) - 0).toNat : Int) - 1 + (i : Int) * -1) = ((t.length - (i + 1) : Nat) : Int) := by omega
      rw [e2]
      fail "gi"
      have tl := tab_len ws t i
      refine for_wl (xs := ws) (j := 4) (fun pre σ' H' => ∃ (x4 : Option V), σ' = [some (.ref lw), some (sv t), some (.ref l), some (.int (t.length - (i + 1) : Nat)), x4] ∧ Same H H' ∧ H' l = some (.lst ((List.replicate (t.length - (i + 1)) 0 ++ part t (t.length - (i + 1)) (tab ws t i) pre :: tab ws t i).map V.int))) ⟨x4, rfl, a1, ?_⟩ ?_ ?_ ?_
      · rw [a2, List.append_assoc]; rfl
      · rintro pre σ' H' ⟨x4, rfl, b1, b2⟩
        fail "seq"
      · rintro pre x post σ' H' ex ⟨x4, rfl, b1, b2⟩
        have hx : Word x := hc.wd x (by rw [ex]; simp)
        have hx1 := hx.1
        have hx2 := hx.2.1
        have ps := part_snoc t (t.length - (i + 1)) (tab ws t i) pre x
        fail "gi"
        rw [cutW_mid]
        refine itd (fun e3 => ?_) fun e3 => ?_
        · rw [if_pos e3] at ps
          have hxl : x.length ≤ i + 1 := by
            have := congrArg List.length e3
            rw [List.length_take, List.length_drop] at this
            omega
          have g1 := at_mid (a := t.length - (i + 1)) (s := part t (t.length - (i + 1)) (tab ws t i) pre) (r := tab ws t i) (k := ((t.length - (i + 1) : Nat) : Int)) rfl
          have g2 := at_after (a := t.length - (i + 1)) (s := part t (t.length - (i + 1)) (tab ws t i) pre) (r := tab ws t i) (k := ((t.length - (i + 1) : Nat) : Int) + (x.length : Int)) (j := x.length - 1) (by omega) (by omega)
          have g3 : ((t.length - (i + 1) : Nat) : Int) < ((List.replicate (t.length - (i + 1)) 0 ++ part t (t.length - (i + 1)) (tab ws t i) pre :: tab ws t i).map V.int).length := by
            simp only [List.length_map, List.length_append, List.length_replicate, List.length_cons]; omega
          fail "gi"
          refine ⟨by fail "same", ?_⟩
          rw [upd_same, ps]
          exact congrArg (fun z => some (HO.lst z)) (set_mid (k := ((t.length - (i + 1) : Nat) : Int)) rfl)
        · rw [if_neg e3] at ps
          fail "gi"
          rw [ps]; exact b2
      · rintro σ' H' ⟨x4, rfl, b1, b2⟩
        exact ⟨_, _, rfl, b1, b2⟩
    · rintro σ' H' ⟨x3, x4, rfl, a1, a2⟩
      fail "gi"
      refine q _ _ a1 (by fail "fr") ?_
      rw [a2, show t.length - ((t.length : Int) - 0).toNat = 0 by omega, show ((t.length : Int) - 0).toNat = t.length by omega]; rfl

/-! ### the program: words -/
instance (a : Wd) : Decidable (Word a) := (by unfold Word; exact inferInstanceAs (Decidable (1 ≤ a.length ∧ a.length ≤ 10 ∧ ∀ c ∈ a, c ∈ ABC)))
theorem Code.perm {zs ws : List Wd} (h : zs.Perm ws) (c : Code ws) : Code zs := ⟨h.nodup_iff.mpr c.nd, by rw [h.length_eq]; exact c.le, fun w hw => c.wd w (h.mem_iff.mp hw)⟩
abbrev s_is_word : Stmt := top 15
theorem sc_is_word : FnScope ["thing", "sign"] ["thing"] (defScope s_is_word) := ⟨rfl, rfl, rfl, by decide +kernel, rfl, by decide +kernel, by decide +kernel⟩
def sp_is_word : Sp := fun vs H Q _ => ∃ a : Wd, vs = [sv a] ∧ a.length ≤ 100000 ∧ Q (.bl (decide (Word a))) H
theorem ok_is_word (B : Bi mg) (G_MOST_SIGNS : ∃ t, mg "MOST_SIGNS" = some (.int 10 t)) (G_SIGNS : ∃ t, mg "SIGNS" = some (.str "abcdefghijklmnopqrstuvwxyz" t)) (D : Def K mg "is_word" s_is_word) : Cal P w K mg base CX0 "is_word" 1 ["thing"] sp_is_word := by
  have nd := sc_is_word.nd
  refine D.cal sc_is_word (fun _ _ _ _ _ _ us hl => match us, hl with | [_], _ => rfl) (fun vs H Q E h => ?_) (fun f cdv A outer s H vs Q E hr h => ?_)
  · obtain ⟨_, rfl, _⟩ := h
    rfl
  · obtain ⟨a, rfl, ha, q⟩ := h
    refine ⟨_, PSs.nox (pss_cons (ps_if (PW.pt (pw_or (pt_not (pt_val (pe_callB (call_is .str) (by rfl) B.isinstance (by decide +kernel) (pa_cons (pv 0) (pa_cons (pe_ty .str (by rfl) B.str (by decide +kernel)) pa_nil))))) (pw_or1 (pt_not (pt_chain op_le op_le pe_int (pe_callB call_lenw (by rfl) B.len PySem.boot_len (pa_cons (pv 0) pa_nil)) (pe_globi G_MOST_SIGNS rfl))))))
        (pss_one (ps_ret pe_bl))
        pss_nil)
      (pss_cons (ps_for PassesOwn.never rfl (pi_str (pv 0)) (pg_name (i := 1) nd rfl (.inl rfl))
        (pss_one (ps_if (pt_cmpR op_nig (pv 1) (pe_globw ABC rfl G_SIGNS rfl) (by rfl))
          (pss_one (ps_ret pe_bl))
          pss_nil)))
      (pss_one (ps_ret pe_bl)))), ?_⟩
    try dsimp only [cxOf, Cx.nox, Cx.wish]
    fail "gi"
    refine itd (fun e1 => ?_) fun e1 => ?_
    · fail "gi"
      refine itn (fun e2 => ?_) fun e2 => ?_
      · fail "gi"
        rw [decide_eq_false (fun z : Word a => e2 (by have := z.2.1; omega))] at q
        exact q
      · fail "gi"
        refine for_str (j := 1) (fun pre σ' H' => ∃ x1 : Option V, σ' = [some (sv a), x1] ∧ H' = H ∧ Abc pre) ⟨none, rfl, rfl, fun _ h => nomatch h⟩ ?_ ?_
        · rintro pre x post σ' H' ex ⟨x1, rfl, rfl, hA⟩
          fail "gi"
          refine itn (fun e3 => ?_) fun e3 => ?_
          · fail "gi"
            rw [decide_eq_false (fun z : Word a => e3 (z.abc x (by rw [ex]; simp)))] at q
            exact q
          · fail "gi"
            intro c hc
            rcases List.mem_append.mp hc with h | h
            · exact hA c h
            · rw [List.mem_singleton.mp h]; exact e3
        · rintro σ' H' ⟨x1, rfl, rfl, hA⟩
          fail "gi"
          rw [decide_eq_true (show Word a from ⟨by omega, by omega, hA⟩)] at q
          exact q
    · rw [decide_eq_false (fun z : Word a => e1 (by have := z.1; omega))] at q
      fail "gi"
      exact q
abbrev s_checked : Stmt := top 16
theorem sc_checked : FnScope ["words", "found", "word"] ["words"] (defScope s_checked) := ⟨rfl, rfl, rfl, by decide +kernel, rfl, by decide +kernel, by decide +kernel⟩
def sp_checked : Sp := fun vs H Q _ => ∃ p : Addr, vs = [.ref p] ∧ ∃ ws : List Wd, H p = some (.lst (ws.map sv)) ∧ Code ws ∧ ∀ zs : List Wd, zs.Perm ws → RetL H Q (zs.map sv)
theorem ok_checked (B : Bi mg) (Er : Errs K mg) (G_MOST_WORDS : ∃ t, mg "MOST_WORDS" = some (.int 12 t)) (D : Def K mg "checked" s_checked) (c_is_word : Cal P w K mg base CX0 "is_word" 1 ["thing"] sp_is_word) : Cal P w K mg base CX0 "checked" 2 ["words"] sp_checked := by
  have nd := sc_checked.nd
  refine D.cal sc_checked (fun _ _ _ _ _ _ us hl => match us, hl with | [_], _ => rfl) (fun vs H Q E h => ?_) (fun f cdv A outer s H vs Q E hr h => ?_)
  · obtain ⟨_, rfl, _⟩ := h
    rfl
  · obtain ⟨p, rfl, ws, hp, hc, q⟩ := h
    refine ⟨_, PSs.nox (pss_cons (ps_if (pt_not (pt_val (pe_callB (call_is .lst) (by rfl) B.isinstance (by decide +kernel) (pa_cons (pv 0) (pa_cons (pe_ty .lst (by rfl) B.list (by decide +kernel)) pa_nil)))))
        (pss_one ps_never)
        pss_nil)
      (pss_cons (ps_if (pt_cmpR op_gt (pe_callB (r := rLenL K) call_lenl (by rfl) B.len PySem.boot_len (pa_cons (pv 0) pa_nil)) (pe_globi G_MOST_WORDS rfl) (nomark _))
        (pss_one ps_never)
        pss_nil)
      (pss_cons (ps_set (i := 1) nd rfl (.inl rfl) (pe_lst pa_nil))
      (pss_cons (ps_for PassesOwn.never rfl (pi_list (pv 0)) (pg_name (i := 2) nd rfl (.inl rfl))
        (pss_cons (ps_if (pt_not (pt_val (pe_cal c_is_word hr (pa_cons (pv 2) pa_nil))))
          (pss_one ps_never)
          pss_nil)
        (pss_cons (ps_if (pt_cmpR (r := rInW K false) op_inw (pv 2) (pv 1) (by rfl))
          (pss_one ps_never)
          pss_nil)
        (pss_one (ps_expr (pe_bm PySem.F.plainAttrs_list PySem.F.slot_list_append PySem.F.type_list_append mt_app (pv 1) (pa_cons (pv 2) pa_nil)))))))
      (pss_one (ps_ret (pe_callB (r := rSortedW K) call_sortedw (by rfl) B.sorted (by decide +kernel) (pa_cons (pv 1) pa_nil)))))))), ?_⟩
    try dsimp only [cxOf, Cx.nox, Cx.wish]
    have hl := hc.le
    fail "gi"
    refine itd (fun e => absurd e (by simp only [List.length_map]; omega)) fun _ => ?_
    fail "gi"
    rename_i l hl2
    refine for_wl (xs := ws) (j := 2) (fun pre σ' H' => ∃ (x2 : Option V), σ' = [some (.ref p), some (.ref l), x2] ∧ Same H H' ∧ H' l = some (.lst (pre.map sv))) ⟨none, rfl, by fail "same", by fail "look"⟩ ?_ ?_ ?_
    · rintro pre σ' H' ⟨x2, rfl, a1, a2⟩
      fail "seq"
    · rintro pre x post σ' H' ex ⟨x2, rfl, a1, a2⟩
      have hx : Word x := hc.wd x (by rw [ex]; simp)
      have hx2 : x.length ≤ 100000 := by have := hx.2.1; omega
      have hm : (pre.map sv).length < 100000 := by rw [List.length_map]; have := congrArg List.length ex; rw [List.length_append] at this; omega
      have nx : x ∉ pre := fun z => by
        have := hc.nd
        rw [ex] at this
        exact (List.nodup_append.mp this).2.2 x z x List.mem_cons_self rfl
      fail "gi"
      refine itnb (fun e => absurd hx (of_decide_eq_false e)) fun _ => ?_
      fail "gi"
      refine itd (fun e => absurd e nx) fun _ => ?_
      fail "gi"
      exact ⟨by fail "same", by fail "look"⟩
    · rintro σ' H' ⟨x2, rfl, a1, a2⟩
      fail "gi"
      intro ys py so
      fail "gi"
      exact q ys py _ _ (by fail "same") (by fail "fr") (by fail "look")
abbrev s_fitting : Stmt := top 18
theorem sc_fitting : FnScope ["words", "text", "place", "word"] ["words", "text", "place"] (defScope s_fitting) := ⟨rfl, rfl, rfl, by decide +kernel, rfl, by decide +kernel, by decide +kernel⟩
def sp_fitting : Sp := fun vs H Q _ => ∃ (p : Addr) (t : Wd) (k : Nat), vs = [.ref p, sv t, .int k] ∧ ∃ ws : List Wd, H p = some (.lst (ws.map sv)) ∧ Code ws ∧ t.length ≤ 1000 ∧ ∀ zs : List Wd, zs.Perm (ws.filter (fits t k)) → zs.Pairwise (fun x y => x.length ≤ y.length) → RetL H Q (zs.map sv)
theorem ok_fitting (B : Bi mg) (D : Def K mg "fitting" s_fitting) : Cal P w K mg base CX0 "fitting" 1 ["words", "text", "place"] sp_fitting := by
  have nd := sc_fitting.nd
  refine D.cal sc_fitting (fun _ _ _ _ _ _ us hl => match us, hl with | [_, _, _], _ => rfl) (fun vs H Q E h => ?_) (fun f cdv A outer s H vs Q E hr h => ?_)
  · obtain ⟨_, _, _, rfl, _⟩ := h
    rfl
  · obtain ⟨p, t, k, rfl, ws, hp, hc, ht, q⟩ := h
    refine ⟨_, PSs.nox (pss_one (ps_ret (pe_sortLen hr.units (by rfl) B.sorted (by rfl) B.len (pa_cons (pe_lc (own := [("word", 3)]) (g := gName 3) rfl nd (pi_list (pv 0)) (blkOk_by (own := [("word", 3)]) (N := ["words", "text", "place", "word"]) (sc := defScope s_fitting) (by decide +kernel)) (fun _ _ _ _ _ => (pg_name (i := 3) nd rfl (.inl rfl))) (fun _ _ _ _ _ => (pts_one (pt_cmpR op_eqw (pe_slice (r := rSlW) sl_w (pv 1) (po_some (pv 2)) (po_some (pe_op op_add (pv 2) (pe_callB call_lenw (by rfl) B.len PySem.boot_len (pa_cons (pv 3) pa_nil))))) (pv 3) (nomark _)))) (fun _ _ _ _ _ => (pv 3))) pa_nil)))), ?_⟩
    try dsimp only [cxOf, Cx.nox, Cx.wish]
    have hl := hc.le
    fail "gi"
    rename_i D hD
    refine lc_w (xs := ws) (j := 3) (fits t k) sv hD (by fail "seq") (by omega) (fun x hx H1 e1 Q1 q1 => ?_) (fun x hx hc H1 e1 Q1 q1 => ?_) (fun H1 e1 h1 => ?_)
    · have := (hc.wd x hx).2.1
      fail "go"
      rw [cutW_mid]
      exact q1 _ (Same.refl _)
    · fail "go"
      exact q1 _ (Same.refl _)
    · have fl := List.length_filter_le (fits t k) ws
      have fb : ∀ w ∈ ws.filter (fits t k), w.length ≤ 1000 := fun w hw => by
        have := (hc.wd w (List.mem_filter.mp hw).1).2.1
        omega
      fail "go"
      intro zs p2 pz pw hp2
      exact q zs pz pw _ _ (by fail "same") (by fail "fr") (by fail "look")
abbrev s_counts_of : Stmt := top 19
theorem sc_counts_of : FnScope ["words", "text", "found", "place", "word"] ["words", "text"] (defScope s_counts_of) := ⟨rfl, rfl, rfl, by decide +kernel, rfl, by decide +kernel, by decide +kernel⟩
theorem perm_sum {xs ys : List Int} (h : xs.Perm ys) : xs.sum = ys.sum := by
  induction h with
  | nil => rfl
  | cons x _ ih => rw [List.sum_cons, List.sum_cons, ih]
  | swap x y l => simp only [List.sum_cons]; omega
  | trans _ _ h1 h2 => exact h1.trans h2
theorem perm_part {t : Wd} {p : Nat} {r : List Int} {zs ws : List Wd} (h : zs.Perm (ws.filter (fits t p))) : (zs.map fun w => r.getD (w.length - 1) 0).sum = part t p r ws := by
  unfold part
  exact perm_sum (h.map _)
def sp_counts_of : Sp := fun vs H Q _ => ∃ (lw : Addr) (t : Wd), vs = [.ref lw, sv t] ∧ ∃ ws : List Wd, H lw = some (.lst (ws.map sv)) ∧ Code ws ∧ t.length ≤ 1000 ∧ RetL H Q ((cnt ws t).map V.int)
theorem ok_counts_of (B : Bi mg) (D : Def K mg "counts_of" s_counts_of) (c_fitting : Cal P w K mg base CX0 "fitting" 1 ["words", "text", "place"] sp_fitting) : Cal P w K mg base CX0 "counts_of" 2 ["words", "text"] sp_counts_of := by
  have nd := sc_counts_of.nd
  refine D.cal sc_counts_of (fun _ _ _ _ _ _ us hl => match us, hl with | [_, _], _ => rfl) (fun vs H Q E h => ?_) (fun f cdv A outer s H vs Q E hr h => ?_)
  · obtain ⟨_, _, rfl, _⟩ := h
    rfl
  · obtain ⟨lw, t, rfl, ws, hw, hc, ht, q⟩ := h
    refine ⟨_, PSs.nox (pss_cons (ps_set (i := 2) nd rfl (.inr rfl) (pe_op op_catl (pe_op op_repn (pe_lst (pa_cons pe_int pa_nil)) (pe_callB call_lenw (by rfl) B.len PySem.boot_len (pa_cons (pv 1) pa_nil))) (pe_lst (pa_cons pe_int pa_nil))))
      (pss_cons (ps_for PassesOwn.never rfl (pi_revR (by rfl) B.reversed (prg_1 (by rfl) B.range (pe_callB call_lenw (by rfl) B.len PySem.boot_len (pa_cons (pv 1) pa_nil)))) (pg_name (i := 3) nd rfl (.inr rfl))
        (pss_one (ps_asg (pe_callB (r := rSumN K) (call_sumn rfl) (by rfl) B.sum (by decide +kernel) (pa_cons (pe_lc (own := [("word", 4)]) (g := gName 4) (tt := tYes) rfl nd (pi_list (pe_cal c_fitting hr (pa_cons (pv 0) (pa_cons (pv 1) (pa_cons (pv 3) pa_nil))))) (blkOk_by (own := [("word", 4)]) (N := ["words", "text", "found", "place", "word"]) (sc := defScope s_counts_of) (by decide +kernel)) (fun _ _ _ _ _ => (pg_name (i := 4) nd rfl (.inl rfl))) (fun _ _ _ _ _ => pts_nil) (fun _ _ _ _ _ => (pe_ix (r := rIxLn K) ix_l (pv 2) (pe_op op_add (pv 3) (pe_callB call_lenw (by rfl) B.len PySem.boot_len (pa_cons (pv 4) pa_nil))) (fun _ _ => rfl)))) pa_nil)) (pg_sub (t := rSetLn) (pv 2) (pv 3) set_ln))))
      (pss_one (ps_ret (pv 2))))), ?_⟩
    try dsimp only [cxOf, Cx.nox, Cx.wish]
    fail "gi"
    rename_i p1 hp1 p2 hp2 p3 hp3 l hl
    have nl : lw ≠ l := (ne_free hl (by fail "look" : _ = some (HO.lst (ws.map sv)))).symm
    refine for_rangeC (fun i σ' H' => ∃ (x3 x4 : Option V), σ' = [some (.ref lw), some (sv t), some (.ref l), x3, x4] ∧ Same H H' ∧ H' l = some (.lst ((List.replicate (t.length - i) 0 ++ tab ws t i).map V.int))) ⟨none, none, rfl, by fail "same", by rw [upd_same]; simp [tab]⟩ ?_ ?_
    · rintro i σ' H' hi ⟨x3, x4, rfl, a1, a2⟩
      have hi' : i < t.length := by omega
      have e1 : t.length - i = (t.length - (i + 1)) + 1 := by omega
      rw [e1, List.replicate_succ', List.append_assoc] at a2
      have a2' : H' l = some (.lst ((List.replicate (t.length - (i + 1)) 0 ++ 0 :: tab ws t i).map V.int)) := a2
      have e2 : (0 + (((t.length : Int) - 0).toNat : Int) - 1 + (i : Int) * -1) = ((t.length - (i + 1) : Nat) : Int) := by omega
      rw [e2]
      have tl := tab_len ws t i
      fail "gi"
      intro zs pz pw
      fail "gi"
      rename_i pf H2 s2 npf hpf D2 hD2
      have zl : zs.length ≤ 12 := by
        have := pz.length_eq
        have := List.length_filter_le (fits t (t.length - (i + 1))) ws
        have := hc.le
        omega
      refine lc_w (xs := zs) (j := 4) (fun _ => true) (fun w => .int ((tab ws t i).getD (w.length - 1) 0)) hD2 (by fail "seq") (by omega) (fun x hx => evYes) (fun x hx _ H3 e3 Q1 q1 => ?_) (fun H3 e3 h3 => ?_)
      · have hx' := List.mem_filter.mp (pz.mem_iff.mp hx)
        have hw1 := hc.wd x hx'.1
        have hx1 := hw1.1
        have hx2 := hw1.2.1
        have hf := of_decide_eq_true hx'.2
        have hxl : x.length ≤ i + 1 := by
          have := congrArg List.length hf
          rw [List.length_take, List.length_drop] at this
          omega
        have g2 := at_after (a := t.length - (i + 1)) (s := 0) (r := tab ws t i) (k := ((t.length - (i + 1) : Nat) : Int) + (x.length : Int)) (j := x.length - 1) (by omega) (by omega)
        fail "go"
        exact q1 _ (Same.refl _)
      · rw [List.filter_eq_self.mpr fun _ _ => rfl] at h3
        have h3' : H3 D2 = some (.lst ((zs.map fun w => (tab ws t i).getD (w.length - 1) 0).map V.int)) := by rw [h3, List.map_map]; rfl
        have g3 : ((t.length - (i + 1) : Nat) : Int) < ((List.replicate (t.length - (i + 1)) 0 ++ 0 :: tab ws t i).map V.int).length := by
          simp only [List.length_map, List.length_append, List.length_replicate, List.length_cons]; omega
        have a2'' : H3 l = some (.lst ((List.replicate (t.length - (i + 1)) 0 ++ 0 :: tab ws t i).map V.int)) := by fail "look"
        fail "go"
        refine ⟨by fail "same", ?_⟩
        rw [upd_same, perm_part pz]
        exact congrArg (fun z => some (HO.lst z)) (set_mid (k := ((t.length - (i + 1) : Nat) : Int)) rfl)
    · rintro σ' H' ⟨x3, x4, rfl, a1, a2⟩
      fail "gi"
      refine q _ _ a1 (by fail "fr") ?_
      rw [a2, show t.length - ((t.length : Int) - 0).toNat = 0 by omega, show ((t.length : Int) - 0).toNat = t.length by omega]; rfl
/-! ### the parting of a number, by itself -/
/-- how many partings there are from a place on -/
def cat (ws : List Wd) (t : Wd) (p : Nat) : Int := (cnt ws t).getD p 0
theorem tab_tail (ws : List Wd) (t : Wd) : ∀ (m d : Nat), d ≤ m → ∃ l : List Int, tab ws t m = l ++ tab ws t d ∧ l.length = m - d
  | 0, d, h => by
    obtain rfl : d = 0 := Nat.le_zero.mp h
    exact ⟨[], rfl, rfl⟩
  | m + 1, d, h => by
    by_cases e : d = m + 1
    · rw [e]; exact ⟨[], rfl, by simp⟩
    · obtain ⟨l, h1, h2⟩ := tab_tail ws t m d (by omega)
      refine ⟨_ :: l, congrArg (List.cons _) h1, ?_⟩
      rw [List.length_cons, h2]; omega
theorem cat_tab (ws : List Wd) (t : Wd) {d : Nat} (h : d ≤ t.length) (j : Nat) : cat ws t (t.length - d + j) = (tab ws t d).getD j 0 := by
  obtain ⟨l, h1, h2⟩ := tab_tail ws t t.length d h
  unfold cat cnt
  rw [h1, List.getD_eq_getElem?_getD, List.getD_eq_getElem?_getD, List.getElem?_append_right (by omega), h2]
  congr 2
  omega
theorem cat_end (ws : List Wd) (t : Wd) : cat ws t t.length = 1 := by
  have := cat_tab ws t (d := 0) (Nat.zero_le _) 0
  rw [Nat.sub_zero, Nat.add_zero] at this
  rw [this]; rfl
/-- the sum of the counts behind some words that fit -/
def sumC (ws : List Wd) (t : Wd) (p : Nat) (xs : List Wd) : Int := (xs.map fun w => cat ws t (p + w.length)).sum
theorem cat_step {ws : List Wd} {t : Wd} (c : ∀ w ∈ ws, w ≠ []) {p : Nat} (h : p < t.length) : cat ws t p = sumC ws t p (ws.filter (fits t p)) := by
  have e := cat_tab ws t (d := t.length - p) (by omega) 0
  rw [show t.length - (t.length - p) + 0 = p by omega] at e
  obtain ⟨d, hd⟩ : ∃ d, t.length - p = d + 1 := ⟨t.length - p - 1, by omega⟩
  rw [e, hd]
  show ((ws.filter (fits t (t.length - (d + 1)))).map fun w => (tab ws t d).getD (w.length - 1) 0).sum = _
  rw [show t.length - (d + 1) = p by omega]
  unfold sumC
  congr 1
  refine List.map_congr_left fun w hw => ?_
  have hw1 := List.length_pos_iff.mpr (c w (List.mem_filter.mp hw).1)
  have := cat_tab ws t (d := d) (by omega) (w.length - 1)
  rw [← this]
  congr 1
  omega
theorem cat_pos {ws : List Wd} {t : Wd} (c : ∀ w ∈ ws, w ≠ []) : ∀ (d p : Nat), t.length - p ≤ d → 0 ≤ cat ws t p
  | 0, p, h => by
    by_cases e : p = t.length
    · rw [e, cat_end]; decide
    · unfold cat
      rw [List.getD_eq_getElem?_getD, List.getElem?_eq_none (by rw [show (cnt ws t).length = t.length + 1 from tab_len ws t _]; omega)]
      decide
  | d + 1, p, h => by
    by_cases e : p < t.length
    · rw [cat_step c e]
      unfold sumC
      have key : ∀ xs : List Wd, (∀ w ∈ xs, w ∈ ws) → 0 ≤ (xs.map fun w => cat ws t (p + w.length)).sum := by
        intro xs
        induction xs with
        | nil => intro _; exact Int.le_refl _
        | cons x xs ih =>
          intro h2
          have h3 := List.length_pos_iff.mpr (c x (h2 x List.mem_cons_self))
          have h4 := cat_pos (t := t) c d (p + x.length) (by omega)
          have h5 := ih fun w hw => h2 w (List.mem_cons_of_mem _ hw)
          rw [List.map_cons, List.sum_cons]
          omega
      exact key _ fun w hw => (List.mem_filter.mp hw).1
    · exact cat_pos c 0 p (by omega)
theorem cat_nn {ws : List Wd} {t : Wd} (c : ∀ w ∈ ws, w ≠ []) (p : Nat) : 0 ≤ cat ws t p := cat_pos c _ p (Nat.le_refl _)
theorem sumC_app (ws : List Wd) (t : Wd) (p : Nat) (xs ys : List Wd) : sumC ws t p (xs ++ ys) = sumC ws t p xs + sumC ws t p ys := by
  unfold sumC
  rw [List.map_append, List.sum_append]
theorem sumC_one (ws : List Wd) (t : Wd) (p : Nat) (x : Wd) : sumC ws t p [x] = cat ws t (p + x.length) := by
  unfold sumC
  simp
theorem sumC_perm (ws : List Wd) (t : Wd) (p : Nat) {xs ys : List Wd} (h : xs.Perm ys) : sumC ws t p xs = sumC ws t p ys := by
  unfold sumC
  exact perm_sum (h.map _)
/-- the partings ahead that have a shorter word at a place -/
def ahd (ws : List Wd) (t : Wd) (p : Nat) (w : Wd) : Int := sumC ws t p ((ws.filter (fits t p)).filter fun o => decide (o.length < w.length))
theorem sumC_sub {ws : List Wd} {t : Wd} (c : ∀ w ∈ ws, w ≠ []) (p : Nat) {q1 q2 : Wd → Bool} : ∀ {xs : List Wd} {w : Wd}, (∀ x ∈ xs, q1 x = true → q2 x = true) → w ∈ xs → q1 w = false → q2 w = true → sumC ws t p (xs.filter q1) + cat ws t (p + w.length) ≤ sumC ws t p (xs.filter q2) := by
  have mono : ∀ {xs : List Wd}, (∀ x ∈ xs, q1 x = true → q2 x = true) → sumC ws t p (xs.filter q1) ≤ sumC ws t p (xs.filter q2) := by
    intro xs
    induction xs with
    | nil => intro _; exact Int.le_refl _
    | cons x xs ih =>
      intro h
      have ih := ih fun y hy => h y (List.mem_cons_of_mem _ hy)
      have hn := cat_nn (t := t) c (p + x.length)
      rw [List.filter_cons, List.filter_cons]
      cases e1 : q1 x with
      | true =>
        rw [if_pos rfl, if_pos (h x List.mem_cons_self e1)]
        have a1 := sumC_app ws t p [x] (xs.filter q1)
        have a2 := sumC_app ws t p [x] (xs.filter q2)
        rw [List.singleton_append] at a1 a2
        omega
      | false =>
        rw [if_neg (by decide)]
        cases e2 : q2 x with
        | true =>
          rw [if_pos rfl]
          have a2 := sumC_app ws t p [x] (xs.filter q2)
          rw [List.singleton_append, sumC_one] at a2
          omega
        | false => rw [if_neg (by decide)]; exact ih
  intro xs
  induction xs with
  | nil => intro w _ h; cases h
  | cons x xs ih =>
    intro w h hw w1 w2
    have hn := cat_nn (t := t) c (p + x.length)
    have h' : ∀ y ∈ xs, q1 y = true → q2 y = true := fun y hy => h y (List.mem_cons_of_mem _ hy)
    rw [List.filter_cons, List.filter_cons]
    have a1 := sumC_app ws t p [x] (xs.filter q1)
    have a2 := sumC_app ws t p [x] (xs.filter q2)
    rw [List.singleton_append, sumC_one] at a1 a2
    rcases List.mem_cons.mp hw with rfl | hw
    · rw [if_neg (by rw [w1]; decide), if_pos w2]
      have := mono h'
      omega
    · have ih := ih h' hw w1 w2
      cases e1 : q1 x with
      | true =>
        rw [if_pos rfl, if_pos (h x List.mem_cons_self e1)]
        omega
      | false =>
        rw [if_neg (by decide)]
        cases e2 : q2 x with
        | true => rw [if_pos rfl]; omega
        | false => rw [if_neg (by decide)]; exact ih
theorem fits_len {t : Wd} {p : Nat} {w : Wd} (h : fits t p w = true) (hp : p ≤ t.length) : p + w.length ≤ t.length := by
  have := congrArg List.length (of_decide_eq_true h)
  rw [List.length_take, List.length_drop] at this
  omega
theorem fits_eq {t : Wd} {p : Nat} {u w : Wd} (h1 : fits t p u = true) (h2 : fits t p w = true) (e : u.length = w.length) : u = w := by
  have a := of_decide_eq_true h1
  have b := of_decide_eq_true h2
  rw [← a, ← b, e]
theorem ahd_mono {ws : List Wd} {t : Wd} (c : ∀ w ∈ ws, w ≠ []) {p : Nat} {u w : Wd} (hu : u ∈ ws) (fu : fits t p u = true) (lt : u.length < w.length) : ahd ws t p u + cat ws t (p + u.length) ≤ ahd ws t p w := by
  unfold ahd
  refine sumC_sub c p (fun x _ h => ?_) (List.mem_filter.mpr ⟨hu, fu⟩) (decide_eq_false (by omega)) (decide_eq_true lt)
  have := of_decide_eq_true h
  exact decide_eq_true (by omega)
/-- R is the parting, from p on, of the number k -/
inductive IsPart (ws : List Wd) (t : Wd) : Nat → Int → List Wd → Prop
  | done : IsPart ws t t.length 0 []
  | step {p : Nat} {k : Int} {w : Wd} {r : List Wd} : w ∈ ws → fits t p w = true → p < t.length → ahd ws t p w ≤ k → k < ahd ws t p w + cat ws t (p + w.length) → IsPart ws t (p + w.length) (k - ahd ws t p w) r → IsPart ws t p k (w :: r)
theorem IsPart.uniq {ws : List Wd} {t : Wd} (c : ∀ w ∈ ws, w ≠ []) {p : Nat} {k : Int} {r s : List Wd} (a : IsPart ws t p k r) (b : IsPart ws t p k s) : r = s := by
  induction a generalizing s with
  | done =>
    cases b with
    | done => rfl
    | step _ _ h => exact absurd h (Nat.lt_irrefl _)
  | @step p k w r h1 h2 h3 h4 h5 h6 ih =>
    cases b with
    | done => exact absurd h3 (Nat.lt_irrefl _)
    | @step _ _ u s g1 g2 g3 g4 g5 g6 =>
      have e : w = u := by
        rcases Nat.lt_trichotomy w.length u.length with l | l | l
        · have := ahd_mono c h1 h2 l
          omega
        · exact fits_eq h2 g2 l
        · have := ahd_mono c g1 g2 l
          omega
      subst e
      rw [ih g6]
theorem IsPart.sub {ws : List Wd} {t : Wd} {p : Nat} {k : Int} {r : List Wd} (a : IsPart ws t p k r) : ∀ w ∈ r, w ∈ ws := by
  induction a with
  | done => exact fun _ h => nomatch h
  | step h1 _ _ _ _ _ ih => exact fun x hx => (List.mem_cons.mp hx).elim (fun e => e ▸ h1) (ih x)
theorem IsPart.flat {ws : List Wd} {t : Wd} {p : Nat} {k : Int} {r : List Wd} (a : IsPart ws t p k r) : r.flatten = t.drop p := by
  induction a with
  | done => simp
  | @step p k w r h1 h2 h3 h4 h5 h6 ih =>
    rw [List.flatten_cons, ih]
    have := of_decide_eq_true h2
    conv => lhs; rw [← this]
    rw [← List.drop_drop, this]
    have e := List.take_append_drop w.length (t.drop p)
    rw [this] at e
    exact e
theorem IsPart.len {ws : List Wd} {t : Wd} (c : ∀ w ∈ ws, w ≠ []) {p : Nat} {k : Int} {r : List Wd} (a : IsPart ws t p k r) : r.length + p ≤ t.length := by
  induction a with
  | done => exact Nat.le_of_eq (Nat.zero_add _)
  | step h1 _ _ _ _ _ ih =>
    have := List.length_pos_iff.mpr (c _ h1)
    rw [List.length_cons]
    omega
/-- the law's own count of what stands ahead of a row -/
def ahead (ws : List Wd) (t : Wd) : Nat → List Wd → Int
  | _, [] => 0
  | p, w :: r => ahd ws t p w + ahead ws t (p + w.length) r
theorem IsPart.ahead {ws : List Wd} {t : Wd} {p : Nat} {k : Int} {r : List Wd} (a : IsPart ws t p k r) : One.ahead ws t p r = k := by
  induction a with
  | done => rfl
  | step _ _ _ _ _ _ ih =>
    show ahd ws t _ _ + One.ahead ws t _ _ = _
    rw [ih]; omega
/-- in the order of lengths the words ahead of w are just those that are shorter -/
theorem ahd_pre {ws : List Wd} {t : Wd} {p : Nat} {zs pre post : List Wd} {w : Wd} (nd : ws.Nodup) (pz : zs.Perm (ws.filter (fits t p))) (pw : zs.Pairwise fun x y => x.length ≤ y.length) (ex : zs = pre ++ w :: post) : sumC ws t p pre = ahd ws t p w := by
  have ndz : zs.Nodup := pz.nodup_iff.mpr (nd.filter _)
  have hz : ∀ x ∈ zs, fits t p x = true := fun x hx => (List.mem_filter.mp (pz.mem_iff.mp hx)).2
  have e : zs.filter (fun o => decide (o.length < w.length)) = pre := by
    rw [ex] at pw ndz hz ⊢
    obtain ⟨_, p2, p3⟩ := List.pairwise_append.mp pw
    obtain ⟨_, _, n3⟩ := List.nodup_append.mp ndz
    have e1 : pre.filter (fun o => decide (o.length < w.length)) = pre := List.filter_eq_self.mpr fun x hx => by
      have := p3 x hx w List.mem_cons_self
      exact decide_eq_true (Nat.lt_of_le_of_ne this fun z => n3 x hx w List.mem_cons_self (fits_eq (hz x (List.mem_append_left _ hx)) (hz w (List.mem_append_right _ List.mem_cons_self)) z))
    have e2 : (w :: post).filter (fun o => decide (o.length < w.length)) = [] := List.filter_eq_nil_iff.mpr fun x hx => by
      rcases List.mem_cons.mp hx with rfl | hx
      · simp
      · have := (List.pairwise_cons.mp p2).1 x hx
        simp only [decide_eq_true_eq]; omega
    rw [List.filter_append, e1, e2, List.append_nil]
  unfold ahd
  rw [← sumC_perm ws t p (pz.filter _), e]
theorem tab_permN {zs ws : List Wd} (h : zs.Perm ws) (t : Wd) : ∀ d, tab zs t d = tab ws t d
  | 0 => rfl
  | d + 1 => by
    show part t _ (tab zs t d) zs :: tab zs t d = part t _ (tab ws t d) ws :: tab ws t d
    rw [tab_permN h t d]
    exact congrArg (· :: _) (perm_part (h.filter _))
theorem cat_perm {zs ws : List Wd} (h : zs.Perm ws) (t : Wd) (p : Nat) : cat zs t p = cat ws t p := by
  unfold cat cnt
  rw [tab_permN h]
theorem ahd_perm {zs ws : List Wd} (h : zs.Perm ws) (t : Wd) (p : Nat) (w : Wd) : ahd zs t p w = ahd ws t p w := by
  unfold ahd
  rw [← sumC_perm ws t p ((h.filter _).filter _)]
  unfold sumC
  congr 1
  exact List.map_congr_left fun o _ => cat_perm h t _
theorem IsPart.perm {zs ws : List Wd} (h : zs.Perm ws) {t : Wd} {p : Nat} {k : Int} {r : List Wd} (a : IsPart zs t p k r) : IsPart ws t p k r := by
  induction a with
  | done => exact .done
  | step h1 h2 h3 h4 h5 _ ih =>
    rw [ahd_perm h] at h4 h5 ih
    rw [cat_perm h] at h5
    exact .step (h.mem_iff.mp h1) h2 h3 h4 h5 ih

/-- what a script hands as a number -/
inductive Num : V → Prop
  | int (k : Int) : Num (.int k)
  | bl (b : Bool) : Num (.bl b)
  | non : Num .non
  | str (a : Wd) : Num (sv a)
abbrev s_parted : Stmt := top 20
theorem sc_parted : FnScope ["words", "text", "counts", "number", "row", "place", "word", "many"] ["words", "text", "counts", "number"] (defScope s_parted) := ⟨rfl, rfl, rfl, by decide +kernel, rfl, by decide +kernel, by decide +kernel⟩
def sp_parted : Sp := fun vs H Q _ => ∃ (p : Addr) (t : Wd) (l : Addr) (k : Int), vs = [.ref p, sv t, .ref l, .int k] ∧ ∃ ws : List Wd, H p = some (.lst (ws.map sv)) ∧ H l = some (.lst ((cnt ws t).map V.int)) ∧ Code ws ∧ t.length ≤ 1000 ∧ 0 ≤ k ∧ k < cat ws t 0 ∧ ∀ R : List Wd, IsPart ws t 0 k R → RetL H Q (R.map sv)
theorem ok_parted (B : Bi mg) (D : Def K mg "parted" s_parted) (c_fitting : Cal P w K mg base CX0 "fitting" 1 ["words", "text", "place"] sp_fitting) : Cal P w K mg base CX0 "parted" 2 ["words", "text", "counts", "number"] sp_parted := by
  have nd := sc_parted.nd
  refine D.cal sc_parted (fun _ _ _ _ _ _ us hl => match us, hl with | [_, _, _, _], _ => rfl) (fun vs H Q E h => ?_) (fun f cdv A outer s H vs Q E hr h => ?_)
  · obtain ⟨_, _, _, _, rfl, _⟩ := h
    rfl
  · obtain ⟨p, t, l, k, rfl, ws, hp, hl, c, tl, k0, k1, q⟩ := h
    refine ⟨_, PSs.nox (pss_cons (ps_set (i := 4) nd rfl (.inl rfl) (pe_lst pa_nil))
      (pss_cons (ps_set (i := 5) nd rfl (.inl rfl) pe_int)
      (pss_cons (ps_while PassesOwn.never (pt_cmpR op_lt (pv 5) (pe_callB call_lenw (by rfl) B.len PySem.boot_len (pa_cons (pv 1) pa_nil)) (nomark _))
        (pss_cons (ps_for PassesOwn.never rfl (pi_list (pe_cal c_fitting hr (pa_cons (pv 0) (pa_cons (pv 1) (pa_cons (pv 5) pa_nil))))) (pg_name (i := 6) nd rfl (.inl rfl))
          (pss_cons (ps_set (i := 7) nd rfl (.inl rfl) (pe_ix (r := rIxLn K) ix_l (pv 2) (pe_op op_add (pv 5) (pe_callB call_lenw (by rfl) B.len PySem.boot_len (pa_cons (pv 6) pa_nil))) (fun _ _ => rfl)))
          (pss_cons (ps_if (pt_cmpR op_lt (pv 3) (pv 7) (nomark _))
            (pss_cons (ps_expr (pe_bm PySem.F.plainAttrs_list PySem.F.slot_list_append PySem.F.type_list_append mt_app (pv 4) (pa_cons (pv 6) pa_nil)))
            (pss_one ps_break))
            pss_nil)
          (pss_one (ps_set (i := 3) nd rfl (.inl rfl) (pe_op op_sub (pv 3) (pv 7)))))))
        (pss_one (ps_set (i := 5) nd rfl (.inl rfl) (pe_op op_add (pv 5) (pe_callB call_lenw (by rfl) B.len PySem.boot_len (pa_cons (pe_ix (r := rIxLm K) ix_lm (pv 4) (pe_un un_neg pe_int) (fun _ _ => rfl)) pa_nil)))))))
      (pss_one (ps_ret (pv 4)))))), ?_⟩
    try dsimp only [cxOf, Cx.nox, Cx.wish]
    fail "gi"
    rename_i pr nr
    have ne : ∀ w ∈ ws, w ≠ [] := fun w hw => List.length_pos_iff.mp (c.wd w hw).1
    have cl : (cnt ws t).length = t.length + 1 := tab_len ws t _
    have hlm : ((cnt ws t).map V.int).length = t.length + 1 := by rw [List.length_map, cl]
    have lr : l ≠ pr := (ne_free nr hl).symm
    have pp : p ≠ pr := (ne_free nr hp).symm
    have nnc := fun p => cat_nn (t := t) ne p
    refine ⟨fun m σ' H' => ∃ (pos : Nat) (k2 : Int) (R : List Wd) (y z : Option V), σ' = [some (.ref p), some (sv t), some (.ref l), some (.int k2), some (.ref pr), some (.int pos), y, z] ∧ m = t.length - pos ∧ Same H H' ∧ H' pr = some (.lst (R.map sv)) ∧ pos ≤ t.length ∧ 0 ≤ k2 ∧ k2 < cat ws t pos ∧ R.length ≤ pos ∧ ∀ r, IsPart ws t pos k2 r → IsPart ws t 0 k (R ++ r),
      ⟨_, 0, k, [], none, none, rfl, rfl, new nr, L2.upd_same, Nat.zero_le _, k0, k1, Nat.zero_le _, fun r h => h⟩, ?_⟩
    rintro m σ' H' ⟨pos, k2, R, y, z, rfl, rfl, a1, a2, a3, a4, a5, a6, a7⟩
    have hp1 := a1 _ _ hp
    have hl1 := a1 _ _ hl
    fail "gi"
    refine itd (fun lt => ?_) fun nlt => ?_
    · have lt' : pos < t.length := by omega
      refine ⟨fun σ' H' => ∃ m', m' < t.length - pos ∧ ∃ (pos : Nat) (k2 : Int) (R : List Wd) (y z : Option V), σ' = [some (.ref p), some (sv t), some (.ref l), some (.int k2), some (.ref pr), some (.int pos), y, z] ∧ m' = t.length - pos ∧ Same H H' ∧ H' pr = some (.lst (R.map sv)) ∧ pos ≤ t.length ∧ 0 ≤ k2 ∧ k2 < cat ws t pos ∧ R.length ≤ pos ∧ ∀ r, IsPart ws t pos k2 r → IsPart ws t 0 k (R ++ r), fun _ _ h => h, ?_⟩
      fail "gi"
      intro zs pz pw
      fail "gi"
      rename_i pf H2 s2 npf hpf
      have b1 := a1.trans s2
      have hl2 := s2 _ _ hl1
      have hr2 := s2 _ _ a2
      have cs : cat ws t pos = sumC ws t pos zs := (cat_step ne lt').trans (sumC_perm ws t pos pz).symm
      refine for_wl (xs := zs) (j := 6) (fun pre σ' H' => ∃ (y z : Option V), σ' = [some (.ref p), some (sv t), some (.ref l), some (.int (k2 - sumC ws t pos pre)), some (.ref pr), some (.int pos), y, z] ∧ H' = H2 ∧ sumC ws t pos pre ≤ k2)
        ⟨y, z, by rw [show k2 - sumC ws t pos [] = k2 by unfold sumC; simp], rfl, a4⟩ ?_ ?_ ?_
      · rintro pre σ' H' ⟨y, z, rfl, rfl, d1⟩
        exact SqL.of hpf
      · rintro pre w post σ' H' ex ⟨y, z, rfl, rfl, d1⟩
        have hw := List.mem_filter.mp (pz.mem_iff.mp (by rw [ex]; exact List.mem_append_right _ List.mem_cons_self : w ∈ zs))
        have fw := hw.2
        have fl := fits_len fw a3
        have w1 := (c.wd w hw.1).1
        have w2 := c.len hw.1
        have sn : sumC ws t pos (pre ++ [w]) = sumC ws t pos pre + cat ws t (pos + w.length) := by rw [sumC_app, sumC_one]
        have ha := ahd_pre c.nd pz pw ex
        have g1 : ((cnt ws t).map V.int)[((pos : Int) + (w.length : Int)).toNat]? = some (.int (cat ws t (pos + w.length))) := by
          rw [show ((pos : Int) + (w.length : Int)).toNat = pos + w.length by omega, List.getElem?_map]
          unfold cat
          rw [List.getD_eq_getElem?_getD, List.getElem?_eq_getElem (by omega)]; rfl
        have rl : (R.map sv).length < 16000000 := by rw [List.length_map]; omega
        fail "gi"
        have g2 : (R.map sv ++ [sv w]).getLast? = some (sv w) := by simp
        refine (show if decide (k2 - sumC ws t pos pre < cat ws t (pos + w.length)) = true then _ else _ from ?_)
        refine itd (fun lt2 => ?_) fun nlt2 => ?_
        · have e1 : L2.upd H' pr (.lst (R.map sv ++ [sv w])) pr = some (.lst (R.map sv ++ [sv w])) := L2.upd_same
          have e2 : Same H (L2.upd H' pr (.lst (R.map sv ++ [sv w]))) := mutd b1 nr
          fail "gi"
          generalize L2.upd H' pr (.lst (R.map sv ++ [sv w])) = H5 at *
          fail "gi"
          refine ⟨t.length - (pos + w.length), by omega, pos + w.length, k2 - sumC ws t pos pre, R ++ [w], _, _, rfl, rfl, e2, by rw [e1, List.map_append]; rfl, fl, by omega, lt2, by rw [List.length_append, List.length_singleton]; omega, fun r hr => ?_⟩
          have := a7 (w :: r) (.step hw.1 fw lt' (by omega) (by omega) (by rw [← ha]; exact hr))
          rw [List.append_assoc]; exact this
        · fail "gi"
          refine ⟨some (sv w), some (.int (cat ws t (pos + w.length))), ?_, rfl, by rw [sn]; omega⟩
          rw [sn, ← Int.sub_sub]; rfl
      · rintro σ' H' ⟨y, z, rfl, rfl, d1⟩
        rw [← cs] at d1
        omega
    · obtain rfl : pos = t.length := by omega
      rw [cat_end] at a5
      obtain rfl : k2 = 0 := by omega
      have := a7 [] .done
      rw [List.append_nil] at this
      fail "gi"
      exact q R this _ _ a1 nr a2
abbrev s_parting : Stmt := top 21
theorem sc_parting : FnScope ["words", "text", "number", "some", "counts"] ["words", "text", "number"] (defScope s_parting) := ⟨rfl, rfl, rfl, by decide +kernel, rfl, by decide +kernel, by decide +kernel⟩
def sp_parting (K : PySem.W.Frag) : Sp := fun vs H Q E => ∃ (p : Addr) (t : Wd) (v : V), vs = [.ref p, sv t, v] ∧ ∃ ws : List Wd, H p = some (.lst (ws.map sv)) ∧ Code ws ∧ t.length ≤ 1000 ∧ Num v ∧
  ((¬ ∃ k : Int, v = .int k ∧ 0 ≤ k ∧ k < cat ws t 0) → ∀ H', Same H H' → E (.ref (He.ga K "NoNumber")) none H') ∧ ∀ k : Int, v = .int k → 0 ≤ k → k < cat ws t 0 → ∀ R : List Wd, IsPart ws t 0 k R → RetL H Q (R.map sv)
theorem ok_parting (B : Bi mg) (Er : Errs K mg) (D : Def K mg "parting" s_parting) (c_checked : Cal P w K mg base CX0 "checked" 2 ["words"] sp_checked) (c_counts_of : Cal P w K mg base CX0 "counts_of" 2 ["words", "text"] sp_counts_of) (c_parted : Cal P w K mg base CX0 "parted" 2 ["words", "text", "counts", "number"] sp_parted) : Cal P w K mg base (L2N.CX P w) "parting" 3 ["words", "text", "number"] (sp_parting K) := by
  have nd := sc_parting.nd
  refine D.cal sc_parting (fun _ _ _ _ _ _ us hl => match us, hl with | [_, _, _], _ => rfl) (fun vs H Q E h => ?_) (fun f cdv A outer s H vs Q E hr h => ?_)
  · obtain ⟨_, _, _, rfl, _⟩ := h
    rfl
  · obtain ⟨p, t, v, rfl, ws, hp, c, tl, nm, q0, q1⟩ := h
    refine ⟨_, (pss_cons (ps_set (i := 3) nd rfl (.inl rfl) (pe_cal c_checked hr (pa_cons (pv 0) pa_nil)))
      (pss_cons (ps_set (i := 4) nd rfl (.inl rfl) (pe_cal c_counts_of hr (pa_cons (pv 3) (pa_cons (pv 1) pa_nil))))
      (pss_cons (ps_if (PW.pt (pw_or (pt_not (pt_val (pe_callB (call_is .int) (by rfl) B.isinstance (by decide +kernel) (pa_cons (pv 2) (pa_cons (pe_ty .int (by rfl) B.int (by decide +kernel)) pa_nil))))) (pw_or (pt_val (pe_callB (call_is .bl) (by rfl) B.isinstance (by decide +kernel) (pa_cons (pv 2) (pa_cons (pe_ty .bl (by rfl) B.bool (by decide +kernel)) pa_nil)))) (pw_or1 (pt_not (pt_chain op_le op_lt pe_int (pv 2) (pe_ix (r := rIxLn K) ix_l (pv 4) pe_int (fun _ _ => rfl))))))))
        (pss_one (ps_refuse Er (by decide +kernel) rfl (L2N.takes_of rfl rfl rfl rfl) rfl))
        pss_nil)
      (pss_one (ps_ret (pe_cal c_parted hr (pa_cons (pv 3) (pa_cons (pv 1) (pa_cons (pv 4) (pa_cons (pv 2) pa_nil)))))))))), ?_⟩
    try dsimp only [cxOf, Cx.nox, Cx.wish]
    fail "gi"
    intro zs pz
    fail "gi"
    rename_i p1 H1 s1 n1 hp1
    have hz := Code.perm pz c
    have ec : cnt zs t = cnt ws t := by unfold cnt; exact tab_permN pz t _
    refine ⟨hz, tl, ?_⟩
    rw [ec]
    fail "gi"
    rename_i p2 H2 s2 n2 hp2
    have s02 := s1.trans s2
    have hp12 := s2 _ _ hp1
    have g0 : ((cnt ws t).map V.int)[Int.toNat 0]? = some (.int (cat ws t 0)) := by
      have cl : (cnt ws t).length = t.length + 1 := tab_len ws t _
      show ((cnt ws t).map V.int)[0]? = _
      rw [List.getElem?_map]
      unfold cat
      rw [List.getD_eq_getElem?_getD, List.getElem?_eq_getElem (by omega)]; rfl
    cases nm with
    | int k =>
      fail "gi"
      refine itd (fun h0 => ?_) fun h0 => ?_
      · fail "gi"
        by_cases h1 : k < cat ws t 0
        · rw [decide_eq_true h1]
          fail "gi"
          have kz : k < cat zs t 0 := by rw [cat_perm pz]; exact h1
          have hc2 : H2 p2 = some (.lst ((cnt zs t).map V.int)) := by rw [ec]; exact hp2
          refine ⟨hc2, hz, tl, h0, kz, fun R ip => ?_⟩
          fail "gi"
          rename_i pq H5 s5 nq hq
          exact q1 k rfl h0 h1 R (ip.perm pz) _ _ (s02.trans s5) (s02.free nq) hq
        · rw [decide_eq_false h1]
          fail "gi"
          refine q0 (fun z => ?_) _ s02
          obtain ⟨k', e, _, l⟩ := z
          cases e
          exact h1 l
      · fail "gi"
        refine q0 (fun z => ?_) _ s02
        obtain ⟨k', e, l, _⟩ := z
        cases e
        exact h0 l
    | bl b =>
      fail "gi"
      exact q0 (fun ⟨_, e, _⟩ => by cases e) _ s02
    | non =>
      fail "gi"
      exact q0 (fun ⟨_, e, _⟩ => by cases e) _ s02
    | str a =>
      fail "gi"
      exact q0 (fun ⟨_, e, _⟩ => by cases e) _ s02

abbrev s_law_is_row : Stmt := top 35
theorem sc_law_is_row : FnScope ["_law_row_here", "_law_words_here", "_law_word_here"] ["_law_row_here", "_law_words_here"] (defScope s_law_is_row) := ⟨rfl, rfl, rfl, by decide +kernel, rfl, by decide +kernel, by decide +kernel⟩
def sp_law_is_row : Sp := fun vs H Q _ => ∃ a p : Addr, vs = [.ref a, .ref p] ∧ ∃ A ws : List Wd, H a = some (.lst (A.map sv)) ∧ H p = some (.lst (ws.map sv)) ∧ A.length ≤ 10000 ∧ (∀ w ∈ A, w ∈ ws) ∧ Ret H Q (.bl true)
theorem ok_law_is_row (B : Bi mg) (D : Def K mg "_law_is_row" s_law_is_row) : Cal P w K mg base CX0 "_law_is_row" 1 ["_law_row_here", "_law_words_here"] sp_law_is_row := by
  have nd := sc_law_is_row.nd
  refine D.cal sc_law_is_row (fun _ _ _ _ _ _ us hl => match us, hl with | [_, _], _ => rfl) (fun vs H Q E h => ?_) (fun f cdv A outer s H vs Q E hr h => ?_)
  · obtain ⟨_, _, rfl, _⟩ := h
    rfl
  · obtain ⟨a, p, rfl, A, ws, ha, hp, hl, hs, q⟩ := h
    refine ⟨_, PSs.nox (pss_cons (ps_if (pt_not (pt_val (pe_callB (call_is .lst) (by rfl) B.isinstance (by decide +kernel) (pa_cons (pv 0) (pa_cons (pe_ty .lst (by rfl) B.list (by decide +kernel)) pa_nil)))))
        (pss_one (ps_ret pe_bl))
        pss_nil)
      (pss_one (ps_ret (pe_cmpR (r := rEqP K) (op_eqp hr.units) (pe_lc (own := [("_law_word_here", 2)]) (g := gName 2) rfl nd (pi_list (pv 0)) (blkOk_by (own := [("_law_word_here", 2)]) (N := ["_law_row_here", "_law_words_here", "_law_word_here"]) (sc := defScope s_law_is_row) (by decide +kernel)) (fun _ _ _ _ _ => (pg_name (i := 2) nd rfl (.inl rfl))) (fun _ _ _ _ _ => (pts_one (PW.pt (pw_or (pt_not (pt_val (pe_callB (call_is .str) (by rfl) B.isinstance (by decide +kernel) (pa_cons (pv 2) (pa_cons (pe_ty .str (by rfl) B.str (by decide +kernel)) pa_nil))))) (pw_or1 (pt_cmpR (r := rInW K true) op_niw (pv 2) (pv 1) (by rfl))))))) (fun _ _ _ _ _ => (pv 2))) (pe_lst pa_nil) (nomark _))))), ?_⟩
    try dsimp only [cxOf, Cx.nox, Cx.wish]
    have o2 := ok_nil
    fail "gi"
    rename_i D hD
    refine lc_w (xs := A) (j := 2) (fun w => !decide (w ∈ ws)) sv hD (by fail "seq") (by omega) (fun x hx H1 e1 Q1 q1 => ?_) (fun x hx hc H1 e1 Q1 q1 => ?_) (fun H1 e1 h1 => ?_)
    · have hp1 := e1 _ _ hp
      fail "gi"
      exact q1 _ (Same.refl _)
    · fail "gi"
      exact q1 _ (Same.refl _)
    · have fe : A.filter (fun w => !decide (w ∈ ws)) = [] := List.filter_eq_nil_iff.mpr fun w hw => by simp [hs w hw]
      rw [fe] at h1
      have h1' : H1 D = some (.lst []) := h1
      fail "gi"
      rename_i p5 n5
      exact q _ (by fail "same")

def rTupOf (K : PySem.W.Frag) : List V → Hp → VK → Prop := fun xs H Q => ∃ p, xs = [.ref p] ∧ ∃ ys, SqL K H p ys ∧ ∀ l, H l = none → Q (.ref l) (L2.upd H l (.tup ys))
theorem call_tupl {X : Cx} : CallR X (.type "tuple") (rTupOf X.K) := CallR.imp call_tuple_of fun xs H Q ⟨p, e, ys, h, q⟩ => ⟨p, ys, e, .inl ⟨h, q⟩⟩
theorem nc {v : V} {vs : List V} (h : Num v) (t : ∀ x ∈ vs, Num x) : ∀ x ∈ v :: vs, Num x := fun x hx => (List.mem_cons.mp hx).elim (fun e => e ▸ h) (t x)
abbrev s_law_number : Stmt := top 36
theorem sc_law_number : FnScope ["_law_cell", "_law_many", "_law_some", "_law_far"] ["_law_cell", "_law_many"] (defScope s_law_number) := ⟨rfl, rfl, rfl, by decide +kernel, rfl, by decide +kernel, by decide +kernel⟩
def sp_law_number : Sp := fun vs H Q _ => ∃ c n : Int, vs = [.int c, .int n] ∧ ∀ v, Num v → Ret H Q v
theorem ok_law_number (B : Bi mg) (D : Def K mg "_law_number" s_law_number) : Cal P w K mg base CX0 "_law_number" 1 ["_law_cell", "_law_many"] sp_law_number := by
  have nd := sc_law_number.nd
  refine D.cal sc_law_number (fun _ _ _ _ _ _ us hl => match us, hl with | [_, _], _ => rfl) (fun vs H Q E h => ?_) (fun f cdv A outer s H vs Q E hr h => ?_)
  · obtain ⟨_, _, rfl, _⟩ := h
    rfl
  · obtain ⟨c, n, rfl, q⟩ := h
    refine ⟨_, PSs.nox (pss_cons (ps_set (i := 2) nd rfl (.inl rfl) (pe_lst (pa_cons pe_int (pa_cons (pe_op op_sub (pv 1) pe_int) (pa_cons (pv 1) (pa_cons (pe_op op_mod (pe_op op_fdiv (pv 0) pe_int) (pe_callB (call_max2 rfl) (by rfl) B.max (by decide +kernel) (pa_cons pe_int (pa_cons (pv 1) pa_nil)))) (pa_cons (pe_op op_mod (pe_op op_fdiv (pv 0) pe_int) (pe_callB (call_max2 rfl) (by rfl) B.max (by decide +kernel) (pa_cons pe_int (pa_cons (pv 1) pa_nil)))) (pa_cons (pe_op op_mod (pe_op op_fdiv (pv 0) pe_int) (pe_callB (call_max2 rfl) (by rfl) B.max (by decide +kernel) (pa_cons pe_int (pa_cons (pv 1) pa_nil)))) (pa_cons (pe_un un_neg pe_int) pa_nil)))))))))
      (pss_cons (ps_set (i := 3) nd rfl (.inl rfl) (pe_op op_add (pv 1) (pe_op op_mod (pe_op op_fdiv (pv 0) pe_int) (pe_op op_pow pe_int pe_int))))
      (pss_one (ps_ret (pe_ix (r := rIxLn K) ix_l (pe_op op_catl (pv 2) (pe_lst (pa_cons (pv 3) (pa_cons (pe_cmpR op_eqn (pe_op op_mod (pe_op op_fdiv (pv 0) pe_int) pe_int) pe_int (nomark _)) (pa_cons pe_non (pa_cons (pe_w [48] rfl) (pa_cons (pe_un un_neg (pv 3)) pa_nil))))))) (pe_op op_mod (pv 0) pe_int) (fun _ _ => rfl)))))), ?_⟩
    try dsimp only [cxOf, Cx.nox, Cx.wish]
    fail "gi"
    have cp : CPow 10 20 := ⟨by decide, by decide⟩
    fail "gi"
    obtain ⟨v, hv, e⟩ := pickm ([V.int 0, (fun i j => V.int (i - j)) n 1, V.int n, (fun i j => V.int (i % j)) (c / 12) (if n > 1 then n else 1), (fun i j => V.int (i % j)) (c / 12) (if n > 1 then n else 1), (fun i j => V.int (i % j)) (c / 12) (if n > 1 then n else 1), (fun i => V.int (-i)) 1] ++ [(fun i j => V.int (i + j)) n (c / 12 % 10 ^ Int.toNat 20), V.bl (decide (c / 12 % 2 = 0)), V.non, sv [48], (fun i => V.int (-i)) (n + c / 12 % 10 ^ Int.toNat 20)]) c (fun z => nomatch z)
    have nv : Num v := by
      rcases List.mem_append.mp hv with h | h
      · exact nc (.int _) (nc (.int _) (nc (.int _) (nc (.int _) (nc (.int _) (nc (.int _) (nc (.int _) (fun _ h => by cases h))))))) v h
      · exact nc (.int _) (nc (.bl _) (nc .non (nc (.str _) (nc (.int _) (fun _ h => by cases h))))) v h
    refine ⟨v, e, q v nv _ ?_⟩
    fail "same"
abbrev s_law_ahead : Stmt := top 37
theorem sc_law_ahead : FnScope ["_law_words_here", "_law_text_here", "_law_row_here", "_law_counts_here", "_law_many", "_law_place", "_law_word_here", "_law_other"] ["_law_words_here", "_law_text_here", "_law_row_here", "_law_counts_here"] (defScope s_law_ahead) := ⟨rfl, rfl, rfl, by decide +kernel, rfl, by decide +kernel, by decide +kernel⟩
def sp_law_ahead : Sp := fun vs H Q _ => ∃ (p : Addr) (t : Wd) (r l : Addr), vs = [.ref p, sv t, .ref r, .ref l] ∧ ∃ ws R : List Wd, H p = some (.lst (ws.map sv)) ∧ H r = some (.lst (R.map sv)) ∧ H l = some (.lst ((cnt ws t).map V.int)) ∧ Code ws ∧ t.length ≤ 1000 ∧ (∃ k, IsPart ws t 0 k R) ∧ Ret H Q (.int (ahead ws t 0 R))
theorem ok_law_ahead (B : Bi mg) (D : Def K mg "_law_ahead" s_law_ahead) : Cal P w K mg base CX0 "_law_ahead" 1 ["_law_words_here", "_law_text_here", "_law_row_here", "_law_counts_here"] sp_law_ahead := by
  have nd := sc_law_ahead.nd
  refine D.cal sc_law_ahead (fun _ _ _ _ _ _ us hl => match us, hl with | [_, _, _, _], _ => rfl) (fun vs H Q E h => ?_) (fun f cdv A outer s H vs Q E hr h => ?_)
  · obtain ⟨_, _, _, _, rfl, _⟩ := h
    rfl
  · obtain ⟨p, t, r, l, rfl, ws, R, hp, hr, hl, c, tl, ⟨k, ip⟩, q⟩ := h
    refine ⟨_, PSs.nox (pss_cons (ps_set (i := 4) nd rfl (.inl rfl) pe_int)
      (pss_cons (ps_set (i := 5) nd rfl (.inl rfl) pe_int)
      (pss_cons (ps_for PassesOwn.never rfl (pi_list (pv 2)) (pg_name (i := 6) nd rfl (.inl rfl))
        (pss_cons (ps_for PassesOwn.never rfl (pi_list (pv 0)) (pg_name (i := 7) nd rfl (.inl rfl))
          (pss_one (ps_if (PW.pt (pw_and (pt_cmpR op_lt (pe_callB call_lenw (by rfl) B.len PySem.boot_len (pa_cons (pv 7) pa_nil)) (pe_callB call_lenw (by rfl) B.len PySem.boot_len (pa_cons (pv 6) pa_nil)) (nomark _)) (pw_and1 (pt_cmpR op_eqw (pe_slice (r := rSlW) sl_w (pv 1) (po_some (pv 5)) (po_some (pe_op op_add (pv 5) (pe_callB call_lenw (by rfl) B.len PySem.boot_len (pa_cons (pv 7) pa_nil))))) (pv 7) (nomark _)))))
            (pss_one (ps_set (i := 4) nd rfl (.inl rfl) (pe_op op_add (pv 4) (pe_ix (r := rIxLn K) ix_l (pv 3) (pe_op op_add (pv 5) (pe_callB call_lenw (by rfl) B.len PySem.boot_len (pa_cons (pv 7) pa_nil))) (fun _ _ => rfl)))))
            pss_nil)))
        (pss_one (ps_set (i := 5) nd rfl (.inl rfl) (pe_op op_add (pv 5) (pe_callB call_lenw (by rfl) B.len PySem.boot_len (pa_cons (pv 6) pa_nil)))))))
      (pss_one (ps_ret (pv 4)))))), ?_⟩
    try dsimp only [cxOf, Cx.nox, Cx.wish]
    have cl : (cnt ws t).length = t.length + 1 := tab_len ws t _
    fail "gi"
    refine for_wl (xs := R) (j := 6) (fun pre σ' H' => ∃ (pos : Nat) (many k2 : Int) (rest : List Wd) (y6 y7 : Option V), σ' = [some (.ref p), some (sv t), some (.ref r), some (.ref l), some (.int many), some (.int pos), y6, y7] ∧ Same H H' ∧ R = pre ++ rest ∧ IsPart ws t pos k2 rest ∧ many + ahead ws t pos rest = ahead ws t 0 R)
      ⟨0, 0, k, R, none, none, rfl, Same.refl _, rfl, ip, Int.zero_add _⟩ ?_ ?_ ?_
    · rintro pre σ' H' ⟨pos, many, k2, rest, y6, y7, rfl, b1, _⟩
      exact SqL.of (b1 _ _ hr)
    · rintro pre w post σ' H' ex ⟨pos, many, k2, rest, y6, y7, rfl, b1, a1, a2, a3⟩
      obtain rfl : rest = w :: post := List.append_cancel_left (a1.symm.trans ex)
      cases a2 with
      | @step _ _ _ _ h1 h2 h3 h4 h5 h6 =>
      have w2 := c.len h1
      have hp1 := b1 _ _ hp
      fail "gi"
      refine for_wl (xs := ws) (j := 7) (fun pre1 σ' H' => ∃ (y7 : Option V), σ' = [some (.ref p), some (sv t), some (.ref r), some (.ref l), some (.int (many + sumC ws t pos ((pre1.filter (fits t pos)).filter fun o => decide (o.length < w.length)))), some (.int pos), some (sv w), y7] ∧ Same H H')
        ⟨y7, by show _ = [_, _, _, _, some (V.int (many + sumC ws t pos [])), _, _, _]; unfold sumC; simp, b1⟩ ?_ ?_ ?_
      · rintro pre1 σ' H' ⟨y7, rfl, b1⟩
        exact SqL.of (b1 _ _ hp)
      · rintro pre1 o post1 σ' H' ex1 ⟨y7, rfl, b1⟩
        have ho : o ∈ ws := by rw [ex1]; exact List.mem_append_right _ List.mem_cons_self
        have o2 := c.len ho
        have e0 : (pre1 ++ [o]).filter (fits t pos) = pre1.filter (fits t pos) ++ if fits t pos o = true then [o] else [] := by
          rw [List.filter_append, List.filter_cons]; rfl
        have hl1 := b1 _ _ hl
        fail "gi"
        have sum0 : ((pre1 ++ [o]).filter (fits t pos)).filter (fun o => decide (o.length < w.length)) = ((pre1.filter (fits t pos)).filter fun o => decide (o.length < w.length)) ++ if fits t pos o = true ∧ o.length < w.length then [o] else [] := by
          rw [e0, List.filter_append]
          congr 1
          by_cases f1 : fits t pos o = true
          · rw [if_pos f1]
            by_cases f2 : o.length < w.length
            · rw [if_pos ⟨f1, f2⟩, List.filter_cons, if_pos (decide_eq_true f2)]; rfl
            · rw [if_neg fun z => f2 z.2, List.filter_cons, if_neg (by simpa using f2)]; rfl
          · rw [if_neg f1, if_neg fun z => f1 z.1]; rfl
        have stay : ¬ (fits t pos o = true ∧ o.length < w.length) → ((pre1 ++ [o]).filter (fits t pos)).filter (fun o => decide (o.length < w.length)) = (pre1.filter (fits t pos)).filter fun o => decide (o.length < w.length) := fun z => by rw [sum0, if_neg z, List.append_nil]
        refine (show if decide ((o.length : Int) < (w.length : Int)) = true then _ else _ from ?_)
        refine itd (fun lt => ?_) fun nlt => ?_
        · fail "gi"
          rw [cutW_mid]
          refine itd (fun fo => ?_) fun nfo => ?_
          · have f1 : fits t pos o = true := decide_eq_true fo
            have fl := fits_len f1 (Nat.le_of_lt h3)
            have g1 : ((cnt ws t).map V.int)[((pos : Int) + (o.length : Int)).toNat]? = some (.int (cat ws t (pos + o.length))) := by
              rw [show ((pos : Int) + (o.length : Int)).toNat = pos + o.length by omega, List.getElem?_map]
              unfold cat
              rw [List.getD_eq_getElem?_getD, List.getElem?_eq_getElem (by omega)]; rfl
            fail "gi"
            refine ⟨some (sv o), ?_, b1⟩
            rw [sum0, if_pos ⟨f1, by omega⟩, sumC_app, sumC_one, ← Int.add_assoc]; rfl
          · have st := stay fun z => nfo (of_decide_eq_true z.1)
            refine ⟨some (sv o), ?_, b1⟩
            rw [st]; rfl
        · have st := stay fun z => nlt (by omega)
          refine ⟨some (sv o), ?_, b1⟩
          rw [st]; rfl
      · rintro σ' H' ⟨y7, rfl, b1⟩
        fail "gi"
        refine ⟨pos + w.length, _, _, post, _, _, rfl, b1, by rw [ex, List.append_assoc]; rfl, h6, ?_⟩
        rw [← a3, Int.add_assoc]; rfl
    · rintro σ' H' ⟨pos, many, k2, rest, y6, y7, rfl, b1, a1, a2, a3⟩
      obtain rfl : rest = [] := List.append_cancel_left (a1.symm.trans (List.append_nil _).symm)
      fail "gi"
      rw [← a3, show many + ahead ws t pos [] = many from Int.add_zero _] at q
      exact q _ b1
abbrev s_law_told : Stmt := top 38
theorem sc_law_told : FnScope ["_law_words_here", "_law_text_here", "_law_number_here", "_law_e"] ["_law_words_here", "_law_text_here", "_law_number_here"] (defScope s_law_told) := ⟨rfl, rfl, rfl, by decide +kernel, rfl, by decide +kernel, by decide +kernel⟩
def sp_law_told : Sp := fun vs H Q _ => ∃ (p : Addr) (t : Wd) (v : V), vs = [.ref p, sv t, v] ∧ ∃ ws : List Wd, H p = some (.lst (ws.map sv)) ∧ Code ws ∧ t.length ≤ 1000 ∧ Num v ∧
  ((¬ ∃ k : Int, v = .int k ∧ 0 ≤ k ∧ k < cat ws t 0) → RetT H Q [sv [110, 117, 109, 98, 101, 114]]) ∧ ∀ k : Int, v = .int k → 0 ≤ k → k < cat ws t 0 → ∀ R : List Wd, IsPart ws t 0 k R → RetL H Q (R.map sv)
theorem ok_law_told (B : Bi mg) (Er : Errs K mg) (D : Def K mg "_law_told" s_law_told) (c_parting : Cal P w K mg base (L2N.CX P w) "parting" 3 ["words", "text", "number"] (sp_parting K)) (c_law_words_of : CalX P w K mg base "_law_words_of" 1 (sp_law_words_of K)) : Cal P w K mg base CX0 "_law_told" 4 ["_law_words_here", "_law_text_here", "_law_number_here"] sp_law_told := by
  have nd := sc_law_told.nd
  refine D.cal sc_law_told (fun _ _ _ _ _ _ us hl => match us, hl with | [_, _, _], _ => rfl) (fun vs H Q E h => ?_) (fun f cdv A outer s H vs Q E hr h => ?_)
  · obtain ⟨_, _, _, rfl, _⟩ := h
    rfl
  · obtain ⟨p, t, v, rfl, ws, hp, c, tl, nm, q0, q1⟩ := h
    refine ⟨_, PSs.nox (pss_one (L2N.ps_try_as (i := 3) rfl rfl nd rfl rfl ⟨rfl, by decide, .inl (Er.gl "CodeError" (by decide +kernel))⟩ takes0N
        (fun W pn xe tk _ => (pss_one (ps_ret (pe_calS c_parting hr tk (pa_cons (pv 0) (pa_cons (pv 1) (pa_cons (pv 2) pa_nil)))))))
        (fun a oe cls d pn hz hf => (pss_one (ps_ret (pe_callTy (r := rTupOf K) call_tupl (by rfl) B.tuple (by decide +kernel) (pa_cons (pe_calX c_law_words_of hr hz hf (pa_cons (pv 3) pa_nil)) pa_nil))))))), ?_⟩
    try dsimp only [cxOf, Cx.nox, Cx.wish]
    fail "gi"
    refine ⟨fun no H1 s1 => ?_, fun k e k0 k1 R ip => ?_⟩
    · refine met Er (x := "NoNumber") (by decide +kernel) fun a ha => ?_
      fail "gi"
      refine ⟨"NoNumber", by decide +kernel, rfl, ?_⟩
      fail "gi"
      rename_i pl H2 s2 nl hl pt nt
      exact q0 no _ _ (s1.trans (s2.trans (new nt))) ((s1.trans s2).free nt) L2.upd_same
    · exact q1 k e k0 k1 R ip
abbrev s_law : Stmt := top 39
theorem sc_law : FnScope ["_law_script", "_law_words_here", "_law_text_here", "_law_counts_here", "_law_number_here", "_law_handed", "_law_found", "_law_is_good", "_law_kept"] ["_law_script"] (defScope s_law) := ⟨rfl, rfl, rfl, by decide +kernel, rfl, by decide +kernel, by decide +kernel⟩
def sp_law (K : PySem.W.Frag) : Sp := fun vs H Q _ => ∃ (a : Addr) (ns : List Int), vs = [.ref a] ∧ SqL K H a (ns.map V.int) ∧ ns.length ≤ 63 ∧ ∀ H', Q (.bl true) H'
set_option maxHeartbeats 3000000
theorem ok_law {fl : Addr} {fd : FuncData} (B : Bi mg) (F : FunD K "law" "law" (defArgs s_law) (defBody s_law) (defScope s_law) [] [] fl fd) (c_law_words : Cal P w K mg base CX0 "_law_words" 4 ["_law_script", "_law_first"] (sp_law_words K)) (c_law_text : Cal P w K mg base CX0 "_law_text" 3 ["_law_script", "_law_first", "_law_words_here"] (sp_law_text K)) (c_law_counts : Cal P w K mg base CX0 "_law_counts" 2 ["_law_words_here", "_law_text_here"] sp_law_counts) (c_law_at : Cal P w K mg base CX0 "_law_at" 1 ["_law_script", "_law_k"] (sp_law_at K)) (c_law_number : Cal P w K mg base CX0 "_law_number" 1 ["_law_cell", "_law_many"] sp_law_number) (c_law_told : Cal P w K mg base CX0 "_law_told" 4 ["_law_words_here", "_law_text_here", "_law_number_here"] sp_law_told) (c_law_is_row : Cal P w K mg base CX0 "_law_is_row" 1 ["_law_row_here", "_law_words_here"] sp_law_is_row) (c_law_ahead : Cal P w K mg base CX0 "_law_ahead" 1 ["_law_words_here", "_law_text_here", "_law_row_here", "_law_counts_here"] sp_law_ahead) : FnOk P w K mg base CX0 6 fl fd ["_law_script"] (sp_law K) := by
  have nd := sc_law.nd
  refine F.ok sc_law (fun vs H Q E h => ?_) (fun cdv A outer s H vs Q E hr h => ?_)
  · obtain ⟨_, _, rfl, _⟩ := h
    rfl
  · obtain ⟨sa, ns, rfl, hS, _, q⟩ := h
    refine ⟨_, PSs.nox (pss_cons (ps_set (i := 1) nd rfl (.inl rfl) (pe_cal c_law_words hr (pa_cons (pv 0) (pa_cons pe_int pa_nil))))
      (pss_cons (ps_set (i := 2) nd rfl (.inl rfl) (pe_cal c_law_text hr (pa_cons (pv 0) (pa_cons pe_int (pa_cons (pv 1) pa_nil)))))
      (pss_cons (ps_set (i := 3) nd rfl (.inl rfl) (pe_cal c_law_counts hr (pa_cons (pv 1) (pa_cons (pv 2) pa_nil))))
      (pss_cons (ps_set (i := 4) nd rfl (.inl rfl) (pe_cal c_law_number hr (pa_cons (pe_cal c_law_at hr (pa_cons (pv 0) (pa_cons pe_int pa_nil))) (pa_cons (pe_ix (r := rIxLn K) ix_l (pv 3) pe_int (fun _ _ => rfl)) pa_nil))))
      (pss_cons (ps_set (i := 5) nd rfl (.inl rfl) (pe_callTy (r := rListOf K) call_listl (by rfl) B.list (by decide +kernel) (pa_cons (pv 1) pa_nil)))
      (pss_cons (ps_set (i := 6) nd rfl (.inl rfl) (pe_cal c_law_told hr (pa_cons (pv 5) (pa_cons (pv 2) (pa_cons (pv 4) pa_nil)))))
      (pss_cons (ps_set (i := 7) nd rfl (.inl rfl) (pe_and (pe_callB (call_is .int) (by rfl) B.isinstance (by decide +kernel) (pa_cons (pv 4) (pa_cons (pe_ty .int (by rfl) B.int (by decide +kernel)) pa_nil))) (pe_and (pe_not (pe_callB (call_is .bl) (by rfl) B.isinstance (by decide +kernel) (pa_cons (pv 4) (pa_cons (pe_ty .bl (by rfl) B.bool (by decide +kernel)) pa_nil)))) (pe_one (pe_chain op_le op_lt pe_int (pv 4) (pe_ix (r := rIxLn K) ix_l (pv 3) pe_int (fun _ _ => rfl)))))))
      (pss_cons (ps_if (pt_not (pt_val (pv 7)))
        (pss_one (ps_ret (pe_and (pe_cmpR (r := rEqP K) (op_eqp hr.units) (pv 6) (pe_tup (pa_cons (pe_w [110, 117, 109, 98, 101, 114] rfl) pa_nil)) (nomark _)) (pe_one (pe_cmpR (r := rEqP K) (op_eqp hr.units) (pv 5) (pv 1) (nomark _))))))
        pss_nil)
      (pss_cons (ps_if (PW.pt (pw_or (pt_not (pt_val (pe_cal c_law_is_row hr (pa_cons (pv 6) (pa_cons (pv 1) pa_nil))))) (pw_or1 (pt_cmpR op_new (pe_m1 (r := rJoW K) PySem.F.slot_str_join PySem.F.type_str_join mt_jow (pe_w [] rfl) (pv 6)) (pv 2) (nomark _)))))
        (pss_one (ps_ret pe_bl))
        pss_nil)
      (pss_cons (ps_if (pt_cmpR (r := rNeP K) (op_nep hr.units) (pe_cal c_law_ahead hr (pa_cons (pv 1) (pa_cons (pv 2) (pa_cons (pv 6) (pa_cons (pv 3) pa_nil))))) (pv 4) (nomark _))
        (pss_one (ps_ret pe_bl))
        pss_nil)
      (pss_cons (ps_set (i := 8) nd rfl (.inl rfl) (pe_callTy (r := rListOf K) call_listl (by rfl) B.list (by decide +kernel) (pa_cons (pv 6) pa_nil)))
      (pss_cons (ps_expr (pe_bm PySem.F.plainAttrs_list PySem.F.slot_list_append PySem.F.type_list_append mt_app (pv 6) (pa_cons (pe_w [] rfl) pa_nil)))
      (pss_one (ps_ret (pe_and (pe_cmpR (r := rEqP K) (op_eqp hr.units) (pv 5) (pv 1) (nomark _)) (pe_one (pe_cmpR (r := rEqP K) (op_eqp hr.units) (pe_cal c_law_told hr (pa_cons (pv 5) (pa_cons (pv 2) (pa_cons (pv 4) pa_nil)))) (pv 8) (nomark _)))))))))))))))))), ?_⟩
    try dsimp only [cxOf, Cx.nox, Cx.wish]
    fail "gi"
    intro ws c
    have o1 := ok_strs ws
    fail "gi"
    intro t ht hA
    have cl : (cnt ws t).length = t.length + 1 := tab_len ws t _
    have g0 : ((cnt ws t).map V.int)[Int.toNat 0]? = some (.int (cat ws t 0)) := by
      show ((cnt ws t).map V.int)[0]? = _
      rw [List.getElem?_map]
      unfold cat
      rw [List.getD_eq_getElem?_getD, List.getElem?_eq_getElem (by omega)]; rfl
    fail "gi"
    intro v nv
    rename_i pw H1 s1 npw hpw H2 s2 pc H3 s3 npc hpc
    have hw3 := s3 _ _ (s2 _ _ hpw)
    clear s1 s2 s3 npc npw hpw
    have ev : PyData.eqv (.list (ws.map fun a => PyData.str (S a))) (.list (ws.map fun a => PyData.str (S a))) = true := (eqv_strs ws ws).trans (decide_eq_true rfl)
    fail "gi"
    rename_i H4 s4 ph nph
    have hw5 : L2.upd H4 ph (.lst (ws.map sv)) pw = some (.lst (ws.map sv)) := new nph _ _ (s4 _ _ hw3)
    have hc5 : L2.upd H4 ph (.lst (ws.map sv)) pc = some (.lst ((cnt ws t).map V.int)) := new nph _ _ (s4 _ _ hpc)
    have hh5 : L2.upd H4 ph (.lst (ws.map sv)) ph = some (.lst (ws.map sv)) := L2.upd_same
    generalize L2.upd H4 ph (.lst (ws.map sv)) = H5 at *
    clear hw3 hpc s4 nph
    by_cases good : ∃ k : Int, v = .int k ∧ 0 ≤ k ∧ k < cat ws t 0
    · obtain ⟨k, rfl, k0, k1⟩ := good
      fail "gi"
      refine ⟨fun no => absurd ⟨k, rfl, k0, k1⟩ no, fun k' e h0 h1 R ip => ?_⟩
      cases e
      have ne : ∀ w ∈ ws, w ≠ [] := fun w hw => List.length_pos_iff.mp (c.wd w hw).1
      have rl := ip.len ne
      have rf : R.flatten = t := ip.flat
      have fl : R.flatten.length ≤ 100000 := by rw [rf]; omega
      have oR := ok_strs R
      have ra := ip.ahead
      fail "gi"
      rename_i pr H6 s6 npr hpr
      have hw6 := s6 _ _ hw5
      have hc6 := s6 _ _ hc5
      have hh6 := s6 _ _ hh5
      have wr : pw ≠ pr := (ne_free npr hw5).symm
      have xr : ph ≠ pr := (ne_free npr hh5).symm
      clear s6 hw5 hc5 hh5 npr
      refine itd (fun _ => ?_) fun e => absurd k0 e
      fail "gi"
      rw [decide_eq_true k1]
      show tNext _ [some (.ref sa), some (.ref pw), some (sv t), some (.ref pc), some (.int k), some (.ref ph), some (.ref pr), some (.bl (decide (k < cat ws t 0))), none] _
      fail "gi"
      refine ⟨R, ws, hpr, hw6, by omega, ip.sub, ?_⟩
      fail "gi"
      rename_i H7 s7
      have hr7 := s7 _ _ hpr
      have hw7 := s7 _ _ hw6
      have hc7 := s7 _ _ hc6
      have hh7 := s7 _ _ hh6
      clear s7 hpr hw6 hc6 hh6
      fail "gi"
      refine itn (fun e => absurd rf e) fun _ => ?_
      fail "gi"
      refine ⟨ws, R, hw7, hr7, hc7, c, by omega, ⟨k, ip⟩, ?_⟩
      rw [ra]
      fail "gi"
      rename_i H8 s8
      have hr8 := s8 _ _ hr7
      have hw8 := s8 _ _ hw7
      have hh8 := s8 _ _ hh7
      clear s8 hr7 hw7 hc7 hh7
      have ek : PyData.eqv (.int k) (.int k) = true := beq_self_eq_true k
      rw [ek]
      show tNext _ [some (.ref sa), some (.ref pw), some (sv t), some (.ref pc), some (.int k), some (.ref ph), some (.ref pr), some (.bl (decide (k < cat ws t 0))), none] H8
      have lR : (R.map sv).length < 16000000 := by rw [List.length_map]; omega
      fail "gi"
      rename_i pk npk
      have kr : pk ≠ pr := ne_free npk hr8
      have hw9 : L2.upd (L2.upd H8 pk (.lst (R.map sv))) pr (.lst (R.map sv ++ [sv []])) pw = some (.lst (ws.map sv)) := by rw [upd_ne wr]; exact new npk _ _ hw8
      have hh9 : L2.upd (L2.upd H8 pk (.lst (R.map sv))) pr (.lst (R.map sv ++ [sv []])) ph = some (.lst (ws.map sv)) := by rw [upd_ne xr]; exact new npk _ _ hh8
      have hk9 : L2.upd (L2.upd H8 pk (.lst (R.map sv))) pr (.lst (R.map sv ++ [sv []])) pk = some (.lst (R.map sv)) := by rw [upd_ne kr]; exact L2.upd_same
      clear hr8 hw8 hh8 npk
      generalize L2.upd (L2.upd H8 pk (.lst (R.map sv))) pr (.lst (R.map sv ++ [sv []])) = H9 at *
      fail "gi"
      rw [ev, if_pos rfl]
      show tOp _ _ _ [some (.ref sa), some (.ref pw), some (sv t), some (.ref pc), some (.int k), some (.ref ph), some (.ref pr), some (.bl (decide (k < cat ws t 0))), some (.ref pk)] H9 _
      fail "gi"
      refine ⟨fun no => absurd ⟨k, rfl, k0, k1⟩ no, fun k' e h0 h1 R2 ip2 => ?_⟩
      cases e
      obtain rfl : R = R2 := ip.uniq ne ip2
      fail "gi"
      rw [show PyData.eqv (.list (R.map fun a => PyData.str (S a))) (.list (R.map fun a => PyData.str (S a))) = true from (eqv_strs R R).trans (decide_eq_true rfl)]
      exact q _
    · fail "gi"
      refine ⟨fun _ => ?_, fun k' e h0 h1 => absurd ⟨k', e, h0, h1⟩ good⟩
      fail "gi"
      rename_i pt H6 s6 npt hpt
      have hw6 := s6 _ _ hw5
      have hc6 := s6 _ _ hc5
      have hh6 := s6 _ _ hh5
      clear s6 hw5 hc5 hh5 npt
      cases nv with
      | int k =>
        fail "gi"
        refine itd (fun h0 => ?_) fun h0 => ?_
        · have h1 : ¬ k < cat ws t 0 := fun z => good ⟨k, rfl, h0, z⟩
          fail "gi"
          rw [decide_eq_false h1]
          fail "gi"
          rw [ev]
          exact q _
        · fail "gi"
          rw [ev]
          exact q _
      | bl b =>
        fail "gi"
        rw [ev]
        exact q _
      | non =>
        fail "gi"
        rw [ev]
        exact q _
      | str a =>
        fail "gi"
        rw [ev]
        exact q _

end
end One


set_option Elab.async false
set_option linter.all false
set_option maxRecDepth 100000
set_option maxHeartbeats 400000
set_option pp.maxSteps 700
namespace One
open PySem PySem.Spec PyProof.Rows L2
local macro_rules | `(tactic| fail "as") => `(tactic| with_reducible assumption)
local macro_rules | `(tactic| fail "same") => `(tactic| first
  | with_reducible exact Same.refl _
  | fail "as"
  | ((with_reducible show Same _ (upd _ _ _)); first
    | exact Same.trans (by fail "same") (new (by fail "as"))
    | exact mutd (by fail "same") (by fail "fr"))
  | ((with_reducible refine Same.trans ?_ (by fail "as")); fail "same"))
local macro_rules | `(tactic| fail "fr") => `(tactic| first
  | fail "as"
  | ((with_reducible refine Same.free ?_ (by fail "as")); fail "same"))
local macro_rules | `(tactic| fail "look") => `(tactic| first
  | ((with_reducible show upd _ _ _ _ = _); first
    | with_reducible exact upd_same
    | with_reducible exact upd_nil
    | with_reducible exact upd_snoc
    | ((with_reducible refine upd_at (by fail "as") ?_); fail "look")
    | ((with_reducible refine new_at (by fail "fr") ?_); fail "look"))
  | fail "as"
  | ((with_reducible refine same_at (by fail "as") ?_); fail "look")
  | ((with_reducible refine same_at ?_ (by fail "as")); fail "same"))
local macro_rules | `(tactic| fail "ne") => `(tactic| (refine ne_free (by fail "as") (by fail "look")))
local macro_rules | `(tactic| fail "seq") => `(tactic| first
  | fail "as"
  | ((with_reducible show SqL _ _ _ _); with_reducible exact SqL.of (by fail "look"))
  | ((with_reducible show SqT _ _ _ _); with_reducible exact SqT.of (by fail "look"))
  | ((with_reducible refine Same.seq ?_ (by fail "as")); fail "same")
  | ((with_reducible refine sqT ?_ (by fail "as")); fail "same"))
local macro_rules | `(tactic| fail "ins") => `(tactic| ((with_reducible show _ = some (HO.ins _ _ _)); fail "look"))
local macro_rules | `(tactic| fail "sq") => `(tactic| first
  | ((with_reducible show Rd _ _ _); first | exact .inl (by fail "look") | exact .inr ⟨_, by fail "look"⟩)
  | ((with_reducible show SqL _ _ _ _); fail "seq")
  | ((with_reducible show SqT _ _ _ _); fail "seq")
  | ((with_reducible show _ = some _); fail "look"))
local macro_rules | `(tactic| fail "le") => `(tactic| first
  | fail "as"
  | with_reducible exact sz (by simp)
  | ((try simp only [List.length_append, List.length_cons, List.length_nil, List.length_map, List.length_replicate, List.length_set]); omega)
  | exact Int.emod_nonneg _ (by omega)
  | decide)
local macro_rules | `(tactic| fail "lf") => `(tactic| first
  | fail "as"
  | ((with_reducible show _ = _); exact rfl)
  | ((with_reducible show _ ≤ _); fail "le")
  | ((with_reducible show _ < _); first | decide | fail "as" | omega)
  | fail "sq"
  | ((with_reducible show CDiv _ _); exact ⟨by decide, by decide⟩)
  | ((with_reducible show CMul _ _); first | exact .inl ⟨by decide, by decide⟩ | exact .inr ⟨by decide, by decide⟩ | exact .inl ⟨by omega, by omega⟩ | exact .inr ⟨by omega, by omega⟩)
  | exact ⟨_, rfl⟩
  | exact ⟨_, by fail "sq"⟩
  | exact tyL (by fail "seq")
  | exact tyD (by fail "look")
  | (refine ⟨?_, ?_, ?_, ?_⟩ <;> omega)
  | (show (0 : Int) < _; first | decide | omega)
  | (show (_ : Int) ≠ 0; first | decide | omega))
local macro_rules | `(tactic| fail "dp") => `(tactic| first
  | exact .str _ | exact .int _ | exact .bl _ | exact .non
  | exact .tup (by fail "seq") (by fail "dps")
  | exact .lst (by fail "seq") (by fail "dps"))
local macro_rules | `(tactic| fail "dps") => `(tactic| first
  | fail "as"
  | with_reducible exact dpAll_strs _
  | with_reducible exact dpAll_ints _
  | ((with_reducible show DpAll _ _ (_ :: _) _); exact .cons (by fail "dp") (by fail "dps"))
  | exact .nil)
local macro_rules | `(tactic| fail "dpS") => `(tactic| ((with_reducible show Dp _ _ _ _); fail "dp"))
local macro_rules | `(tactic| fail "ga") => `(tactic| ((with_reducible show _ = some _); fail "as"))
local macro_rules | `(tactic| fail "gE") => `(tactic| first
  | with_reducible refine ⟨_, _, _, _, _, rfl, by fail "ins", by fail "as", by fail "as", rfl, ?_⟩
  | with_reducible refine ⟨_, _, _, _, rfl, by fail "ins", by fail "as", by fail "as", Nat.le_of_ble_eq_true rfl, ?_⟩
  | with_reducible refine ⟨_, _, _, rfl, by fail "ins", rfl, ?_⟩
  | with_reducible refine ⟨_, by fail "dpS", ?_⟩
  | refine ⟨_, kI _, ?_⟩
  | refine ⟨_, kS _, ?_⟩
  | refine ⟨_, by fail "ga", ?_⟩
  | refine ⟨_, rfl, ?_⟩
  | refine ⟨_, _, rfl, rfl, ?_⟩
  | refine ⟨_, _, rfl, ?_⟩
  | refine ⟨_, _, _, rfl, ?_⟩
  | refine ⟨_, _, _, _, rfl, ?_⟩
  | refine ⟨_, rfl, rfl, ?_⟩
  | refine ⟨_, _, _, rfl, rfl, ?_⟩
  | refine ⟨_, by fail "sq", ?_⟩
  | refine ⟨_, _, rfl, by fail "sq", rfl, ?_⟩
  | refine ⟨_, TyW.int _, ?_⟩
  | refine ⟨_, TyW.str _, ?_⟩
  | refine ⟨_, TyW.non, ?_⟩
  | refine ⟨_, TyW.bl _, ?_⟩
  | refine ⟨_, TyW.tup (by fail "look"), ?_⟩
  | refine ⟨_, TyW.lst (by fail "look"), ?_⟩
  | refine ⟨_, TyW.dict (by fail "look"), ?_⟩)
local macro_rules | `(tactic| fail "g1") => `(tactic| first
  | (refine (show ∃ _, _ from ?_); fail "gE")
  | (refine (show _ ∧ _ from ?_); refine And.intro (by fail "lf") ?_))
local macro_rules | `(tactic| fail "go") => `(tactic| repeat (fail "g1"))
local macro_rules | `(tactic| fail "gi") => `(tactic| repeat (first
  | fail "g1"
  | refine (show Ret _ _ _ from fun H' s' => ?_)
  | refine (show RetL _ _ _ from fun p H' s' np hp => ?_)
  | refine (show RetT _ _ _ from fun p H' s' np hp => ?_)
  | refine (show RetD _ _ _ from fun p H' s' np hp => ?_)
  | refine (show ∀ p : Addr, _ = none → _ from fun p hp => ?_)))
/-! ### the head -/
def dd_law_words_of : He.DefD := ⟨("_law_words_of", none), "_law_words_of", "_law_words_of", defArgs s_law_words_of, defBody s_law_words_of, defScope s_law_words_of, [], []⟩
def dd_law_at : He.DefD := ⟨("_law_at", none), "_law_at", "_law_at", defArgs s_law_at, defBody s_law_at, defScope s_law_at, [], []⟩
def dd_law_mixed : He.DefD := ⟨("_law_mixed", none), "_law_mixed", "_law_mixed", defArgs s_law_mixed, defBody s_law_mixed, defScope s_law_mixed, [], []⟩
def dd_law_signs : He.DefD := ⟨("_law_signs", none), "_law_signs", "_law_signs", defArgs s_law_signs, defBody s_law_signs, defScope s_law_signs, [], []⟩
def dd_law_word : He.DefD := ⟨("_law_word", none), "_law_word", "_law_word", defArgs s_law_word, defBody s_law_word, defScope s_law_word, [], []⟩
def dd_law_any_word : He.DefD := ⟨("_law_any_word", none), "_law_any_word", "_law_any_word", defArgs s_law_any_word, defBody s_law_any_word, defScope s_law_any_word, [], []⟩
def dd_law_more : He.DefD := ⟨("_law_more", none), "_law_more", "_law_more", defArgs s_law_more, defBody s_law_more, defScope s_law_more, [], []⟩
def dd_law_chain : He.DefD := ⟨("_law_chain", none), "_law_chain", "_law_chain", defArgs s_law_chain, defBody s_law_chain, defScope s_law_chain, [], []⟩
def dd_law_words : He.DefD := ⟨("_law_words", none), "_law_words", "_law_words", defArgs s_law_words, defBody s_law_words, defScope s_law_words, [], []⟩
def dd_law_row : He.DefD := ⟨("_law_row", none), "_law_row", "_law_row", defArgs s_law_row, defBody s_law_row, defScope s_law_row, [], []⟩
def dd_law_text : He.DefD := ⟨("_law_text", none), "_law_text", "_law_text", defArgs s_law_text, defBody s_law_text, defScope s_law_text, [], []⟩
def dd_law_counts : He.DefD := ⟨("_law_counts", none), "_law_counts", "_law_counts", defArgs s_law_counts, defBody s_law_counts, defScope s_law_counts, [], []⟩
def dd_is_word : He.DefD := ⟨("is_word", none), "is_word", "is_word", defArgs s_is_word, defBody s_is_word, defScope s_is_word, [], []⟩
def dd_checked : He.DefD := ⟨("checked", none), "checked", "checked", defArgs s_checked, defBody s_checked, defScope s_checked, [], []⟩
def dd_fitting : He.DefD := ⟨("fitting", none), "fitting", "fitting", defArgs s_fitting, defBody s_fitting, defScope s_fitting, [], []⟩
def dd_counts_of : He.DefD := ⟨("counts_of", none), "counts_of", "counts_of", defArgs s_counts_of, defBody s_counts_of, defScope s_counts_of, [], []⟩
def dd_parted : He.DefD := ⟨("parted", none), "parted", "parted", defArgs s_parted, defBody s_parted, defScope s_parted, [], []⟩
def dd_parting : He.DefD := ⟨("parting", none), "parting", "parting", defArgs s_parting, defBody s_parting, defScope s_parting, [], []⟩
def dd_law_is_row : He.DefD := ⟨("_law_is_row", none), "_law_is_row", "_law_is_row", defArgs s_law_is_row, defBody s_law_is_row, defScope s_law_is_row, [], []⟩
def dd_law_number : He.DefD := ⟨("_law_number", none), "_law_number", "_law_number", defArgs s_law_number, defBody s_law_number, defScope s_law_number, [], []⟩
def dd_law_ahead : He.DefD := ⟨("_law_ahead", none), "_law_ahead", "_law_ahead", defArgs s_law_ahead, defBody s_law_ahead, defScope s_law_ahead, [], []⟩
def dd_law_told : He.DefD := ⟨("_law_told", none), "_law_told", "_law_told", defArgs s_law_told, defBody s_law_told, defScope s_law_told, [], []⟩
def dd_law : He.DefD := ⟨("law", none), "law", "law", defArgs s_law, defBody s_law, defScope s_law, [], []⟩
def fn : List He.DefD := [dd_law_words_of, dd_law_at, dd_law_mixed, dd_law_signs, dd_law_word, dd_law_any_word, dd_law_more, dd_law_chain, dd_law_words, dd_law_row, dd_law_text, dd_law_counts, dd_is_word, dd_checked, dd_fitting, dd_counts_of, dd_parted, dd_parting, dd_law_is_row, dd_law_number, dd_law_ahead, dd_law_told, dd_law]
def fa : List He.Fa := [.glo "_law_words_of", .glo "_law_at", .glo "_law_mixed", .glo "_law_signs", .glo "_law_word", .glo "_law_any_word", .glo "_law_more", .glo "_law_chain", .glo "_law_words", .glo "_law_row", .glo "_law_text", .glo "_law_counts", .glo "is_word", .glo "checked", .glo "fitting", .glo "counts_of", .glo "parted", .glo "parting", .glo "_law_is_row", .glo "_law_number", .glo "_law_ahead", .glo "_law_told", .glo "law", .free "len", .free "isinstance", .free "range", .free "sorted", .free "sum", .free "max", .free "min", .free "reversed", .free "list", .free "dict", .free "int", .free "str", .free "tuple", .free "bool", .free "enumerate", .int "MOST_SIGNS" 10, .int "MOST_WORDS" 12, .str "SIGNS" "abcdefghijklmnopqrstuvwxyz"]
abbrev R : PySem.W.OpenRow := PySem.W.OpenLaw.row PySem.Challenge.rw_onereading_k04_partings_told
abbrev hk : PySem.W.Hook := hookM 4 fa fn errB
def ob (s : PySem.W.SharedT) : He.AlD × Bool := (He.obsDG 4 fa fn (HandSHeadRun.getT s), errB (He.frG (HandSHeadRun.getT s) (He.asD (HandSHeadRun.getT s) 4)))
theorem ob_eq (s : PySem.W.SharedT) : ob s = hk.obs s.abs := obsM_eq (HandSHeadRun.getT_eq s)
def loose0 : List Str := ["CodeError", "BadCode", "Full", "BadWord", "Twice", "NotThere", "NoNumber", "NoWait", "BadSign", "NoReading", "is_word", "checked", "fitting", "counts_of", "parted", "parting", "_law_at", "_law_mixed", "_law_signs", "_law_word"]
def loose1 : List Str := ["_law_any_word", "_law_more", "_law_chain", "_law_words", "_law_row", "_law_text", "_law_counts", "_law_words_of", "_law_is_row", "_law_number", "_law_ahead", "_law_told", "SIGNS", "MOST_WORDS", "MOST_SIGNS"]
def loose : List Str := loose0 ++ loose1
theorem run (w : World) : HandSHeadRun.RunEq R (PySem.W.view R.prog [39]) hk ob 4000 loose w := by
  intro os
  kernel_rfl
theorem facts {P : Program} {w : World} {K : PySem.W.Frag} {h : Heap} {mg : Str → Option Value} {f : Addr} (X : K.In h) (G : h.Ns mainGlobals mg) (hfa : mg ("law" : Str) = some (.ref f)) (c : He.SaysD fa fn K) (ce : errB K = true) :
    ∃ fd : FuncData, (∀ (s : Shared) (v : Value), BindsTo s fd ⟨[v], []⟩ [("_law_script", v)]) ∧ ∀ base : Heap, K.In base → base.Ns mainGlobals mg → FnOk P w K mg base CX0 6 f fd ["_law_script"] (sp_law K) := by
  have D_law_words_of : Def K mg "_law_words_of" s_law_words_of := by
    obtain ⟨fd, F⟩ := c.def_ 0 (d := dd_law_words_of) rfl
    exact ⟨_, fd, He.glo_ok X G (c.fact 0 (f := .glo "_law_words_of") rfl), F⟩
  have D_law_at : Def K mg "_law_at" s_law_at := by
    obtain ⟨fd, F⟩ := c.def_ 1 (d := dd_law_at) rfl
    exact ⟨_, fd, He.glo_ok X G (c.fact 1 (f := .glo "_law_at") rfl), F⟩
  have D_law_mixed : Def K mg "_law_mixed" s_law_mixed := by
    obtain ⟨fd, F⟩ := c.def_ 2 (d := dd_law_mixed) rfl
    exact ⟨_, fd, He.glo_ok X G (c.fact 2 (f := .glo "_law_mixed") rfl), F⟩
  have D_law_signs : Def K mg "_law_signs" s_law_signs := by
    obtain ⟨fd, F⟩ := c.def_ 3 (d := dd_law_signs) rfl
    exact ⟨_, fd, He.glo_ok X G (c.fact 3 (f := .glo "_law_signs") rfl), F⟩
  have D_law_word : Def K mg "_law_word" s_law_word := by
    obtain ⟨fd, F⟩ := c.def_ 4 (d := dd_law_word) rfl
    exact ⟨_, fd, He.glo_ok X G (c.fact 4 (f := .glo "_law_word") rfl), F⟩
  have D_law_any_word : Def K mg "_law_any_word" s_law_any_word := by
    obtain ⟨fd, F⟩ := c.def_ 5 (d := dd_law_any_word) rfl
    exact ⟨_, fd, He.glo_ok X G (c.fact 5 (f := .glo "_law_any_word") rfl), F⟩
  have D_law_more : Def K mg "_law_more" s_law_more := by
    obtain ⟨fd, F⟩ := c.def_ 6 (d := dd_law_more) rfl
    exact ⟨_, fd, He.glo_ok X G (c.fact 6 (f := .glo "_law_more") rfl), F⟩
  have D_law_chain : Def K mg "_law_chain" s_law_chain := by
    obtain ⟨fd, F⟩ := c.def_ 7 (d := dd_law_chain) rfl
    exact ⟨_, fd, He.glo_ok X G (c.fact 7 (f := .glo "_law_chain") rfl), F⟩
  have D_law_words : Def K mg "_law_words" s_law_words := by
    obtain ⟨fd, F⟩ := c.def_ 8 (d := dd_law_words) rfl
    exact ⟨_, fd, He.glo_ok X G (c.fact 8 (f := .glo "_law_words") rfl), F⟩
  have D_law_row : Def K mg "_law_row" s_law_row := by
    obtain ⟨fd, F⟩ := c.def_ 9 (d := dd_law_row) rfl
    exact ⟨_, fd, He.glo_ok X G (c.fact 9 (f := .glo "_law_row") rfl), F⟩
  have D_law_text : Def K mg "_law_text" s_law_text := by
    obtain ⟨fd, F⟩ := c.def_ 10 (d := dd_law_text) rfl
    exact ⟨_, fd, He.glo_ok X G (c.fact 10 (f := .glo "_law_text") rfl), F⟩
  have D_law_counts : Def K mg "_law_counts" s_law_counts := by
    obtain ⟨fd, F⟩ := c.def_ 11 (d := dd_law_counts) rfl
    exact ⟨_, fd, He.glo_ok X G (c.fact 11 (f := .glo "_law_counts") rfl), F⟩
  have D_is_word : Def K mg "is_word" s_is_word := by
    obtain ⟨fd, F⟩ := c.def_ 12 (d := dd_is_word) rfl
    exact ⟨_, fd, He.glo_ok X G (c.fact 12 (f := .glo "is_word") rfl), F⟩
  have D_checked : Def K mg "checked" s_checked := by
    obtain ⟨fd, F⟩ := c.def_ 13 (d := dd_checked) rfl
    exact ⟨_, fd, He.glo_ok X G (c.fact 13 (f := .glo "checked") rfl), F⟩
  have D_fitting : Def K mg "fitting" s_fitting := by
    obtain ⟨fd, F⟩ := c.def_ 14 (d := dd_fitting) rfl
    exact ⟨_, fd, He.glo_ok X G (c.fact 14 (f := .glo "fitting") rfl), F⟩
  have D_counts_of : Def K mg "counts_of" s_counts_of := by
    obtain ⟨fd, F⟩ := c.def_ 15 (d := dd_counts_of) rfl
    exact ⟨_, fd, He.glo_ok X G (c.fact 15 (f := .glo "counts_of") rfl), F⟩
  have D_parted : Def K mg "parted" s_parted := by
    obtain ⟨fd, F⟩ := c.def_ 16 (d := dd_parted) rfl
    exact ⟨_, fd, He.glo_ok X G (c.fact 16 (f := .glo "parted") rfl), F⟩
  have D_parting : Def K mg "parting" s_parting := by
    obtain ⟨fd, F⟩ := c.def_ 17 (d := dd_parting) rfl
    exact ⟨_, fd, He.glo_ok X G (c.fact 17 (f := .glo "parting") rfl), F⟩
  have D_law_is_row : Def K mg "_law_is_row" s_law_is_row := by
    obtain ⟨fd, F⟩ := c.def_ 18 (d := dd_law_is_row) rfl
    exact ⟨_, fd, He.glo_ok X G (c.fact 18 (f := .glo "_law_is_row") rfl), F⟩
  have D_law_number : Def K mg "_law_number" s_law_number := by
    obtain ⟨fd, F⟩ := c.def_ 19 (d := dd_law_number) rfl
    exact ⟨_, fd, He.glo_ok X G (c.fact 19 (f := .glo "_law_number") rfl), F⟩
  have D_law_ahead : Def K mg "_law_ahead" s_law_ahead := by
    obtain ⟨fd, F⟩ := c.def_ 20 (d := dd_law_ahead) rfl
    exact ⟨_, fd, He.glo_ok X G (c.fact 20 (f := .glo "_law_ahead") rfl), F⟩
  have D_law_told : Def K mg "_law_told" s_law_told := by
    obtain ⟨fd, F⟩ := c.def_ 21 (d := dd_law_told) rfl
    exact ⟨_, fd, He.glo_ok X G (c.fact 21 (f := .glo "_law_told") rfl), F⟩
  have D_law : Def K mg "law" s_law := by
    obtain ⟨fd, F⟩ := c.def_ 22 (d := dd_law) rfl
    exact ⟨_, fd, He.glo_ok X G (c.fact 22 (f := .glo "law") rfl), F⟩
  have B : Bi mg := ⟨He.free_ok X G (c.fact 23 (f := .free "len") rfl), He.free_ok X G (c.fact 24 (f := .free "isinstance") rfl), He.free_ok X G (c.fact 25 (f := .free "range") rfl), He.free_ok X G (c.fact 26 (f := .free "sorted") rfl), He.free_ok X G (c.fact 27 (f := .free "sum") rfl), He.free_ok X G (c.fact 28 (f := .free "max") rfl), He.free_ok X G (c.fact 29 (f := .free "min") rfl), He.free_ok X G (c.fact 30 (f := .free "reversed") rfl), He.free_ok X G (c.fact 31 (f := .free "list") rfl), He.free_ok X G (c.fact 32 (f := .free "dict") rfl), He.free_ok X G (c.fact 33 (f := .free "int") rfl), He.free_ok X G (c.fact 34 (f := .free "str") rfl), He.free_ok X G (c.fact 35 (f := .free "tuple") rfl), He.free_ok X G (c.fact 36 (f := .free "bool") rfl), He.free_ok X G (c.fact 37 (f := .free "enumerate") rfl)⟩
  have G_MOST_SIGNS : ∃ t, mg "MOST_SIGNS" = some (.int 10 t) := He.int_ok X G (c.fact 38 (f := .int "MOST_SIGNS" 10) rfl)
  have G_MOST_WORDS : ∃ t, mg "MOST_WORDS" = some (.int 12 t) := He.int_ok X G (c.fact 39 (f := .int "MOST_WORDS" 12) rfl)
  have G_SIGNS : ∃ t, mg "SIGNS" = some (.str "abcdefghijklmnopqrstuvwxyz" t) := He.str_ok X G (c.fact 40 (f := .str "SIGNS" "abcdefghijklmnopqrstuvwxyz") rfl)
  have Er := errs_ok X G ce
  obtain ⟨f1, fd, hm, F⟩ := D_law
  have e := hfa.symm.trans hm
  cases e
  have b := FunD.bindsA (ps := ["_law_script"]) F fun _ _ _ _ _ _ us hl => match us, hl with | [_], _ => rfl
  refine ⟨fd, fun s v => b s [v] rfl, fun base _ _ => ?_⟩
  have c_law_words_of := ok_law_words_of (P := P) (w := w) (base := base) B Er D_law_words_of
  have c_law_at := ok_law_at (P := P) (w := w) (base := base) B D_law_at
  have c_law_mixed := ok_law_mixed (P := P) (w := w) (base := base) B D_law_mixed
  have c_law_signs := ok_law_signs (P := P) (w := w) (base := base) B D_law_signs
  have c_law_word := ok_law_word (P := P) (w := w) (base := base) B D_law_word c_law_mixed
  have c_law_any_word := ok_law_any_word (P := P) (w := w) (base := base) B D_law_any_word
  have c_law_more := ok_law_more (P := P) (w := w) (base := base) B D_law_more c_law_word
  have c_law_chain := ok_law_chain (P := P) (w := w) (base := base) B D_law_chain c_law_at c_law_mixed c_law_word
  have c_law_words := ok_law_words (P := P) (w := w) (base := base) B D_law_words c_law_at c_law_signs c_law_chain c_law_mixed c_law_word c_law_any_word c_law_more
  have c_law_row := ok_law_row (P := P) (w := w) (base := base) B D_law_row c_law_at c_law_mixed
  have c_law_text := ok_law_text (P := P) (w := w) (base := base) B D_law_text c_law_row c_law_at
  have c_law_counts := ok_law_counts (P := P) (w := w) (base := base) B D_law_counts
  have c_is_word := ok_is_word (P := P) (w := w) (base := base) B G_MOST_SIGNS G_SIGNS D_is_word
  have c_checked := ok_checked (P := P) (w := w) (base := base) B Er G_MOST_WORDS D_checked c_is_word
  have c_fitting := ok_fitting (P := P) (w := w) (base := base) B D_fitting
  have c_counts_of := ok_counts_of (P := P) (w := w) (base := base) B D_counts_of c_fitting
  have c_parted := ok_parted (P := P) (w := w) (base := base) B D_parted c_fitting
  have c_parting := ok_parting (P := P) (w := w) (base := base) B Er D_parting c_checked c_counts_of c_parted
  have c_law_is_row := ok_law_is_row (P := P) (w := w) (base := base) B D_law_is_row
  have c_law_number := ok_law_number (P := P) (w := w) (base := base) B D_law_number
  have c_law_ahead := ok_law_ahead (P := P) (w := w) (base := base) B D_law_ahead
  have c_law_told := ok_law_told (P := P) (w := w) (base := base) B Er D_law_told c_parting c_law_words_of
  exact ok_law B F c_law_words c_law_text c_law_counts c_law_at c_law_number c_law_told c_law_is_row c_law_ahead
end One
open PySem PySem.W PySem.Calls PyProof.Rows
set_option maxHeartbeats 0 in
theorem PySem.Challenge.cw_onereading_k04_partings_told_holds : PySem.Challenge.rw_onereading_k04_partings_told.Holds := by
  w_on; o_law
  refine HandSHeadRun.head_any (r := One.R) (q := view One.R.prog [39]) (H := One.hk) (ob := One.ob) (M := 4000) (loose := One.loose) (d := HandSHeadRun.topDef One.R.prog 39) (kwd := []) One.ob_eq
    (by kernel_rfl) (fun s => by kernel_rfl) One.run (by kernel_rfl) (by kernel_rfl) (by kernel_rfl) (by rfl) (by first | assumption | decide +kernel) (by decide +kernel) ⟨rfl, rfl, rfl, rfl, rfl, by decide +kernel⟩ ?hw ?hc
  case hw => w_witness2
  case hc =>
    refine L2.walk_ofE (l := PySem.Challenge.rw_onereading_k04_partings_told) (n := 63) (k := 6) (x := "_law_script") (CX := L2.CX0) rfl (by decide) (by kernel_rfl) ⟨rfl, by decide, by decide⟩ ?F (fun _ _ _ _ z => z)
    intro w mg fa h Y G hmg0
    obtain ⟨K, KX, c, ce⟩ := Y
    have hmg : mg ("law" : PySem.Str) = some (.ref fa) := by
      have e : (HandSHeadRun.topDef One.R.prog 39).name = ("law" : PySem.Str) := by kernel_rfl
      rw [← e]
      exact hmg0
    obtain ⟨fd, hb, hF⟩ := One.facts (P := (PySem.Challenge.rw_onereading_k04_partings_told).prog) (w := w) KX G hmg c ce
    exact ⟨K, fd, One.sp_law K, KX, hb, fun H a ns hl _ hS => ⟨a, ns, rfl, hS, hl, fun _ => rfl⟩, hF⟩

